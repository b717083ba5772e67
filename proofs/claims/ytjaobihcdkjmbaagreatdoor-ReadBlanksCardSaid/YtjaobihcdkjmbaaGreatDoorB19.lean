/- The law ReadBlanks answers true for every argument; a part of its proof. -/
import Derived.Test.YtjaobihcdkjmbaaGreatDoorBa
import Derived.Test.YtjaobihcdkjmbaaGreatDoorBb
import Derived.Test.YtjaobihcdkjmbaaGreatDoorB0
import Derived.Test.YtjaobihcdkjmbaaGreatDoorB7
import Derived.Test.YtjaobihcdkjmbaaGreatDoorB9
import Derived.Test.YtjaobihcdkjmbaaGreatDoorB11
import Derived.Test.YtjaobihcdkjmbaaGreatDoorB12
import Derived.Test.YtjaobihcdkjmbaaGreatDoorB14
set_option linter.unusedVariables false
set_option linter.unusedSimpArgs false
namespace Go.Proofs.YtjaobihcdkjmbaaGreatDoor.PReadTokens
end Go.Proofs.YtjaobihcdkjmbaaGreatDoor.PReadTokens
namespace Go.Proofs.YtjaobihcdkjmbaaGreatDoorW.PrintWords
end Go.Proofs.YtjaobihcdkjmbaaGreatDoorW.PrintWords
set_option maxRecDepth 100000
set_option maxHeartbeats 4000000
section
namespace Go.Proofs.YtjaobihcdkjmbaaGreatDoor
open Go.RowKit Go.Proofs.YtjaobihcdkjmbaaGreatDoorW.PrintWords Go.Proofs.YtjaobihcdkjmbaaGreatDoor.PReadTokens
def exV (x:S31) (v5:Value):Value:=.agg #[.int .i64 x.f0,.string x.f1.f0,.string x.f1.f1,.string x.f2,.int .i64 x.f3,v5]
structure Ex (w:World) (S:Nat→Prop) (x:S31) (v:Value):Prop where
 out:∃v5,v=exV x v5∧k31.R 31 w 0 S v5 x.f4
theorem Ex.mono {w:World} {S S':Nat→Prop} {x:S31} {v:Value} (h:Ex w S x v) (hS:∀k,S k→S' k):Ex w S' x v:=by
 obtain⟨v5,h1,h2⟩:=h.out;exact⟨v5,h1,Kd.R_mono h2 hS⟩
theorem Ex.old {w:World} {S S':Nat→Prop} {x:S31} {v:Value} (h:Ex w S x v) (hS:∀k,S k→k<w.heap.size→S' k):Ex w S' x v:=by
 obtain⟨v5,h1,h2⟩:=h.out;exact⟨v5,h1,Kd.R_mono (Kd.R_bound h2) (fun k hk=>hS k hk.1 hk.2.2.1)⟩
theorem Ex.step {w w1:World} {S:Nat→Prop} {x:S31} {v:Value} (h:Ex w S x v) (hs:∀k,S k→k<w.heap.size→w1.heap[k]?=w.heap[k]?):Ex w1 S x v:=by
 obtain⟨v5,h1,h2⟩:=h.out;exact⟨v5,h1,Kd.R_step h2 hs⟩
theorem Ex.grown {w w1:World} {S:Nat→Prop} {x:S31} {v:Value} {R:Nat} (h:Ex w S x v) (hg:w.grownBy w1 (some R)) (hS:∀k,S k→k≠R):Ex w1 S x v :=
 h.step (fun k hk hlt=>hg.block k hlt (fun e=>by injection e with e;exact hS k hk e))
theorem Ex.below {w w1:World} {S:Nat→Prop} {x:S31} {v:Value} (h:Ex w S x v) (hb:Below w.heap.size w w1):Ex w1 S x v:=h.step (fun k _ hlt=>hb.block k hlt)
theorem Ex.leaf {w:World} {S:Nat→Prop} (x:S31) (hx:x.f4=[]):Ex w S x (exV x (.slice none 0 0)):=⟨_,rfl,by rw[hx];exact Kd.R_nil _ _ _ _ _⟩
theorem lit_row {W:World} {S:Nat→Prop} {xs:List S31} {inner:List Value} (hr:Reps (k31.M W 0 S) 6 xs inner) (hS:S W.heap.size) (hm:xs.length≤9223372036854775807) :
  k31.R 31 (W.alloc (.cells inner.toArray 31)) 0 S (.slice (some ⟨W.heap.size,0,none⟩) xs.length xs.length) xs:=by
 refine⟨fun k hk=>by simp[Value.ownBlock] at hk;rw[← hk];exact hS,zBY.lit W 0 (R:=k31.M (W.alloc (.cells inner.toArray 31)) 0 (fun k=>S k∧some k≠(Value.slice (some ⟨W.heap.size,0,none⟩) xs.length xs.length).ownBlock)) (size:=6) (e:=31) (hr.imp_ fun x c hx=>?_) (kAT _) hm⟩;have h1:=k31.M_bound hx;have h2:=k31.M_move (w1:=W.alloc (.cells inner.toArray 31)) (fun k hk=>kA4 _ _ _ hk.2.2.1) h1;exact k31.M_mono (fun k hk=>⟨hk.1,fun e=>by simp[Value.ownBlock] at e;have:=hk.2.2.1;omega⟩) h2
theorem Ex.cells {w:World} {S:Nat→Prop} {x:S31} {v:Value} (h:Ex w S x v) :
  ∃v5 A n c,v=exV x v5∧v5=.slice A n c∧k31.R 31 w 0 S v5 x.f4∧k31.M w 0 S x [.int .i64 x.f0,.string x.f1.f0,.string x.f1.f1,.string x.f2,.int .i64 x.f3,v5]:=by
 obtain⟨v5,h1,h2⟩:=h.out;obtain⟨A,c,h3⟩:=Kd.R_slice h2;exact⟨v5,A,_,c,h1,h3,h2,k31_mkM w 0 S x h2⟩
def set6 (X:World) (R:Nat) (v0 v1 v2 v3 v4 v5:Value):World:=(((((X.setCell ⟨R,0,none⟩ v0).setCell ⟨R,1,none⟩ v1).setCell ⟨R,2,none⟩ v2).setCell ⟨R,3,none⟩ v3).setCell ⟨R,4,none⟩ v4).setCell ⟨R,5,none⟩ v5
theorem fin6 {X:World} {R:Nat} {x0 x1 x2 x3 x4 x5:Value} {t:TypeId} (v0 v1 v2 v3 v4 v5:Value) (hR:X.heap[R]?=some (.cells #[x0,x1,x2,x3,x4,x5] t (0,0))) :
  (set6 X R v0 v1 v2 v3 v4 v5).heap[R]?=some (.cells #[v0,v1,v2,v3,v4,v5] t (0,0)):=zA7 (zA7 (zA7 (zA7 (zA7 (zA7 hR 0 v0) 1 v1) 2 v2) 3 v3) 4 v4) 5 v5
theorem below6 {B:Nat} {w X:World} {R:Nat} (h:Below B w X) (hB:B≤R) (v0 v1 v2 v3 v4 v5:Value):Below B w (set6 X R v0 v1 v2 v3 v4 v5) :=
 (((((h.setCell (p:=⟨R,0,none⟩) hB _).setCell (p:=⟨R,1,none⟩) hB _).setCell (p:=⟨R,2,none⟩) hB _).setCell (p:=⟨R,3,none⟩) hB _).setCell (p:=⟨R,4,none⟩) hB _).setCell (p:=⟨R,5,none⟩) hB _
theorem zCq {X:World} (R:Nat) (v0 v1 v2 v3 v4 v5:Value):X.grownBy (set6 X R v0 v1 v2 v3 v4 v5) (some R) :=
 kA6 (kA6 (kA6 (kA6 (kA6 (kAf _ _ _ _) (kAf _ _ _ _)) (kAf _ _ _ _)) (kAf _ _ _ _)) (kAf _ _ _ _)) (kAf _ _ _ _)
theorem Ex.set6 {X:World} {R:Nat} {S:Nat→Prop} {x:S31} {v:Value} (h:Ex X S x v) (hS:∀k,S k→k≠R) (v0 v1 v2 v3 v4 v5:Value):Ex (set6 X R v0 v1 v2 v3 v4 v5) S x v:=h.grown (zCq R v0 v1 v2 v3 v4 v5) hS
theorem two_calls (op:Int) (a b:S31) (va vb:Value) (S:Nat→Prop) (w:World) (hS:∀k,w.heap.size≤k→S k) (ha:Ex w S a va) (hb:Ex w S b vb) :
  Calls Tryz.prog 161 #[.int .i64 op,va,vb] w fun e w'=>∃v,e=.returned v∧Ex w' S ⟨op,z28,⟨#[]⟩,0,[a,b]⟩ v∧Below w.heap.size w w':=by
 obtain⟨a5,A1,n1,c1,rfl,rfl,_,ma⟩:=ha.cells;obtain⟨b5,A2,n2,c2,rfl,rfl,_,mb⟩:=hb.cells;unfold exV;have Ma:=kA1 ma;have Mb:=kA1 mb;clear ha hb ma mb;go_enter Tryz.func161,Tryz.ntmps161;go_wp2;obtain⟨W3,hW⟩:∃W3,W3=((w.alloc (Obj.cells #[Value.int IntKind.i64 a.f0,Value.string a.f1.f0,Value.string a.f1.f1,Value.string a.f2,Value.int IntKind.i64 a.f3,Value.slice A1 n1 c1] 31)).alloc (Obj.cells #[Value.int IntKind.i64 b.f0,Value.string b.f1.f0,Value.string b.f1.f1,Value.string b.f2,Value.int IntKind.i64 b.f3,Value.slice A2 n2 c2] 31)).alloc
   (Obj.cells #[Value.int IntKind.i64 op,Value.string ⟨#[]⟩,Value.string ⟨#[]⟩,Value.string ⟨#[]⟩,Value.int IntKind.i64 0,Value.slice (some ⟨w.heap.size+1+1+1,0,none⟩) 2 2] 31):=⟨_,rfl⟩
 have hz:W3.heap.size=w.heap.size+1+1+1:=by rw[hW];simp
 have hb3:Below w.heap.size w W3:=by rw[hW];exact (((kA3 _ w).alloc (kA2 _) _).alloc kCV _).alloc kCX _
 have hR:W3.heap[w.heap.size+1+1]?=some (Obj.cells #[Value.int IntKind.i64 op,Value.string ⟨#[]⟩,Value.string ⟨#[]⟩,Value.string ⟨#[]⟩,Value.int IntKind.i64 0,Value.slice (some ⟨w.heap.size+1+1+1,0,none⟩) 2 2] 31 (0,0)):=by
  rw[hW];exact zAu _ _ _ kCV
 rw[← hW];have reps:Reps (k31.M W3 0 S) 6 [a,b] [.int .i64 a.f0,.string a.f1.f0,.string a.f1.f1,.string a.f2,.int .i64 a.f3,.slice A1 n1 c1,.int .i64 b.f0,.string b.f1.f0,.string b.f1.f1,.string b.f2,.int .i64 b.f3,.slice A2 n2 c2] :=
  ((Reps.none _ _).snoc (Kd.M_below Ma.out hb3) rfl).snoc (Kd.M_below Mb.out hb3) rfl
 have hrow:=lit_row reps (hS _ kCT) kCV;rw[hz] at hrow;refine kAi (zAg Tryz.results161 _ _ (w.heap.size+1+1) 31 _ (0,0) _ rfl ((kA4 _ _ _ kCT).trans hR) Tryz.underlying31 rfl zAV) rfl ⟨_,rfl,⟨_,rfl,hrow⟩,hb3.alloc kCT _⟩
section
abbrev PR:=Except Int (S31×Nat)
def bs (l:List UInt8):ByteArray:=⟨l.toArray⟩
section
variable (ts:List S47) (en:Nat) (chk:S28→Int)
def sk (now:Nat) (x:ByteArray):Bool:=zCW (tokP ts en now) x
def atP (now:Nat):Int:=(tokP ts en now).f2
def zFb (r:S28) (now:Nat):PR:=if (tokP ts en now).f0=3 then .ok (⟨0,r,(tokP ts en now).f1,0,[]⟩,now+1) else .ok (⟨0,r,⟨#[]⟩,0,[]⟩,now)
def litS (now:Nat):PR :=
 if sk ts en (now+1) ⟨#[124]⟩=true then
  if (tokP ts en (now+2)).f0=2∧(tokP ts en (now+2)).f1.toList≠[49]∧chk ⟨(tokP ts en now).f1,(tokP ts en (now+2)).f1⟩=0 then zFb ts en ⟨(tokP ts en now).f1,(tokP ts en (now+2)).f1⟩ (now+3)
  else .error (atP ts en (now+2))
 else zFb ts en ⟨(tokP ts en now).f1,⟨#[49]⟩⟩ (now+1)
def zEQ (ex:Nat→PR) (close:ByteArray):Nat→List S31→Nat→Except Int (List S31×Nat)
 | 0,_,now=>.error (atP ts en now)
 | k+1,acc,now =>
  match ex now with
  | .error p=>.error p
  | .ok (x,n) =>
   if (acc++[x]).length<8∧sk ts en n ⟨#[44]⟩=true then zEQ ex close k (acc++[x]) (n+1)
   else if sk ts en n close=true then .ok (acc++[x],n+1) else .error (atP ts en n)
def atomS (ex:Nat→PR) (now:Nat):PR :=
 if (tokP ts en now).f0=2 then litS ts en chk now
 else if (tokP ts en now).f0=0 then
  if sk ts en (now+1) ⟨#[40]⟩=true then
   if sk ts en (now+2) ⟨#[41]⟩=true then .ok (⟨14,z28,(tokP ts en now).f1,0,[]⟩,now+3)
   else match zEQ ts en ex ⟨#[41]⟩ 8 [] (now+2) with
    | .error p=>.error p
    | .ok (xs,n)=>.ok (⟨14,z28,(tokP ts en now).f1,0,xs⟩,n)
  else .ok (⟨1,z28,(tokP ts en now).f1,0,[]⟩,now+1)
 else if sk ts en now ⟨#[40]⟩=true then
  match ex (now+1) with
  | .error p=>.error p
  | .ok (x,n)=>if sk ts en n ⟨#[41]⟩=true then .ok (x,n+1) else .error (atP ts en n)
 else if sk ts en now ⟨#[91]⟩=true then
  match zEQ ts en ex ⟨#[93]⟩ 8 [] (now+1) with
  | .error p=>.error p
  | .ok (xs,n)=>.ok (⟨8,z28,⟨#[]⟩,0,xs⟩,n)
 else .error (atP ts en now)
def twoX (op:Int) (a b:S31):S31:=⟨op,z28,⟨#[]⟩,0,[a,b]⟩
def zBS (ex:Nat→PR):Nat→S31→Nat→PR
 | 0,x,n=>.ok (x,n)
 | k+1,x,n =>
  if sk ts en n ⟨#[91]⟩=true then
   match ex (n+1) with
   | .error p=>.error p
   | .ok (y,m)=>if sk ts en m ⟨#[93]⟩=true then zBS ex k (twoX 9 x y) (m+1) else .error (atP ts en m)
  else .ok (x,n)
def zCk (ex:Nat→PR) (now:Nat):PR :=
 match atomS ts en chk ex now with
 | .error p=>.error p
 | .ok (x,n)=>zBS ts en ex (ts.length+1) x n
def zCv (ex:Nat→PR) (now:Nat):PR :=
 match zCk ts en chk ex now with
 | .error p=>.error p
 | .ok (x,n) =>
  if sk ts en n ⟨#[94]⟩=true then
   if sk ts en (n+1) ⟨#[45]⟩=true then
    match numS ts en 1 9 (n+2) with
    | .error p=>.error p
    | .ok (v,m)=>.ok (⟨7,z28,⟨#[]⟩,-v,[x]⟩,m)
   else
    match numS ts en 0 9 (n+1) with
    | .error p=>.error p
    | .ok (v,m)=>.ok (⟨7,z28,⟨#[]⟩,v,[x]⟩,m)
  else .ok (x,n)
def zBu (ex:Nat→PR):Nat→S31→Nat→PR
 | 0,x,n=>.ok (x,n)
 | k+1,x,n =>
  if sk ts en n ⟨#[42]⟩=true then
   match zCv ts en chk ex (n+1) with
   | .error p=>.error p
   | .ok (y,m)=>zBu ex k (twoX 5 x y) m
  else if sk ts en n ⟨#[47]⟩=true then
   match zCv ts en chk ex (n+1) with
   | .error p=>.error p
   | .ok (y,m)=>zBu ex k (twoX 6 x y) m
  else .ok (x,n)
def zAO (ex:Nat→PR) (now:Nat):PR :=
 match zCv ts en chk ex now with
 | .error p=>.error p
 | .ok (x,n)=>zBu ts en chk ex (ts.length+1) x n
def zAW (ex:Nat→PR):Nat→S31→Nat→PR
 | 0,x,n=>.ok (x,n)
 | k+1,x,n =>
  if sk ts en n ⟨#[43]⟩=true then
   match zAO ts en chk ex (n+1) with
   | .error p=>.error p
   | .ok (y,m)=>zAW ex k (twoX 3 x y) m
  else if sk ts en n ⟨#[45]⟩=true then
   match zAO ts en chk ex (n+1) with
   | .error p=>.error p
   | .ok (y,m)=>zAW ex k (twoX 4 x y) m
  else .ok (x,n)
def zCQ (ex:Nat→PR) (now:Nat):PR :=
 if sk ts en now ⟨#[45]⟩=true then
  match zAO ts en chk ex (now+1) with
  | .error p=>.error p
  | .ok (x,n)=>zAW ts en chk ex (ts.length+1) ⟨2,z28,⟨#[]⟩,0,[x]⟩ n
 else
  match zAO ts en chk ex now with
  | .error p=>.error p
  | .ok (x,n)=>zAW ts en chk ex (ts.length+1) x n
def loopS (ex:Nat→PR) (op:Int) (now:Nat):PR :=
 if (tokP ts en now).f0=0 then
  if sk ts en (now+1) ⟨#[60]⟩=true then
   match numS ts en 1 99 (now+2) with
   | .error p=>.error p
   | .ok (v,m) =>
    if sk ts en m ⟨#[46]⟩=true then
     match ex (m+1) with
     | .error p=>.error p
     | .ok (x,n)=>.ok (⟨op,z28,(tokP ts en now).f1,v,[x]⟩,n)
    else .error (atP ts en m)
  else .error (atP ts en (now+1))
 else .error (atP ts en now)
def letS (ex:Nat→PR) (now:Nat):PR :=
 if (tokP ts en now).f0=0 then
  if sk ts en (now+1) ⟨#[61]⟩=true then
   match ex (now+2) with
   | .error p=>.error p
   | .ok (a,n) =>
    if sk ts en n ⟨#[105,110]⟩=true then
     match ex (n+1) with
     | .error p=>.error p
     | .ok (b,m)=>.ok (⟨13,z28,(tokP ts en now).f1,0,[a,b]⟩,m)
    else .error (atP ts en n)
  else .error (atP ts en (now+1))
 else .error (atP ts en now)
def ifS (ex:Nat→PR) (now:Nat):PR :=
 match zCQ ts en chk ex now with
 | .error p=>.error p
 | .ok (a,n1) =>
  if sk ts en n1 ⟨#[60]⟩=true then
   match zCQ ts en chk ex (n1+1) with
   | .error p=>.error p
   | .ok (b,n2) =>
    if sk ts en n2 ⟨#[116,104,101,110]⟩=true then
     match ex (n2+1) with
     | .error p=>.error p
     | .ok (c,n3) =>
      if sk ts en n3 ⟨#[101,108,115,101]⟩=true then
       match ex (n3+1) with
       | .error p=>.error p
       | .ok (d,n4)=>.ok (⟨12,z28,⟨#[]⟩,0,[a,b,c,d]⟩,n4)
      else .error (atP ts en n3)
    else .error (atP ts en n2)
  else .error (atP ts en n1)
def exprB (ex:Nat→PR) (now:Nat):PR :=
 if sk ts en now ⟨#[108,101,116]⟩=true then letS ts en ex (now+1)
 else if sk ts en now ⟨#[105,102]⟩=true then ifS ts en chk ex (now+1)
 else if sk ts en now ⟨#[116,97,98]⟩=true then loopS ts en ex 10 (now+1)
 else if sk ts en now ⟨#[115,117,109]⟩=true then loopS ts en ex 11 (now+1)
 else zCQ ts en chk ex now
def zCY:Nat→Nat→PR
 | 0,now=>.error (atP ts en now)
 | k+1,now=>exprB ts en chk (zCY k) now
end
end
abbrev From (n:Nat):Nat→Prop:=fun k=>n≤k
def zAj (w:World) (R:Nat) (ts:List S47) (en now:Nat):PR→Ending→World→Prop
 | .ok (x,n),e,w'=>now<n∧n≤ts.length∧∃v,e=.returned v∧Ex w' (From w.heap.size) x v∧Took w R ts n en w'
 | .error p,e,w'=>e=zAk p∧w.grownBy w' (some R)
def Pars (W0:World) (R B:Nat) (ts:List S47) (en:Nat) (f:FuncId) (spec:Nat→PR) (m:Nat):Prop :=
 ∀now w,m≤now→St W0 R B ts en now w→Calls Tryz.prog f #[.pointer (some ⟨R,0,none⟩)] w (zAj w R ts en now (spec now))
theorem zBG {ts:List S47} {en now:Nat} {k:Int} (h:(tokP ts en now).f0=k) (hk:k≠-1):now<ts.length:=by
 unfold tokP at h;by_cases hlt:now<ts.length
 ·exact hlt
 ·rw[dif_neg hlt] at h;exact absurd h.symm hk
theorem Took.blk {w w':World} {R:Nat} {ts:List S47} {n en:Nat} (h:Took w R ts n en w') {k:Nat} {o:Obj} (hk:w.heap[k]?=some o) (hne:k≠R):w'.heap[k]?=some o :=
 (h.grown.block _ (zA5 hk) (fun e=>by injection e with e;exact hne e)).trans hk
theorem zAe {w w':World} {R:Nat} (h:w.grownBy w' (some R)) {k:Nat} {o:Obj} (hk:w.heap[k]?=some o) (hne:k≠R):w'.heap[k]?=some o :=
 (h.block _ (zA5 hk) (fun e=>by injection e with e;exact hne e)).trans hk
theorem zA6 {w:World} {X:Nat} {v0 v1 v2 v3 v4 v5:Value} {t:TypeId} (h:w.heap[X]?=some (.cells #[v0,v1,v2,v3,v4,v5] t (0,0))) :
  (w.cell? ⟨X,0,none⟩=some v0∧w.cell? ⟨X,1,none⟩=some v1∧w.cell? ⟨X,2,none⟩=some v2∧w.cell? ⟨X,3,none⟩=some v3∧w.cell? ⟨X,4,none⟩=some v4∧w.cell? ⟨X,5,none⟩=some v5) ∧
  (w.frozen? ⟨X,0,none⟩=false∧w.frozen? ⟨X,1,none⟩=false∧w.frozen? ⟨X,2,none⟩=false∧w.frozen? ⟨X,3,none⟩=false∧w.frozen? ⟨X,4,none⟩=false∧w.frozen? ⟨X,5,none⟩=false)∧X<w.heap.size :=
 ⟨⟨zA1 h 0,zA1 h 1,zA1 h 2,zA1 h 3,zA1 h 4,zA1 h 5⟩,⟨zA2 h 0,zA2 h 1,zA2 h 2,zA2 h 3,zA2 h 4,zA2 h 5⟩,zA5 h⟩
def zO:Obj:=.cells #[.int .i64 0,.string ⟨#[]⟩,.string ⟨#[]⟩,.string ⟨#[]⟩,.int .i64 0,.slice none 0 0] 31
theorem Rdr.far {w:World} {R:Nat} {ts:List S47} {now en:Nat} (h:Rdr w R ts now en) {X:Nat} {cs:Array Value} (hX:w.heap[X]?=some (.cells cs 31 (0,0))) (hne:X≠R) (i:Nat) (v:Value):Rdr (w.setCell ⟨X,i,none⟩ v) R ts now en:=by
 obtain⟨u,base,h1,h2⟩:=h.out;exact⟨u,base,blk_far h1 kCX _,zFK h2 (own_ne h2 hX kCW) _⟩
theorem Took.far {w w':World} {R:Nat} {ts:List S47} {n en:Nat} (h:Took w R ts n en w') {X:Nat} {cs:Array Value} (hX:w'.heap[X]?=some (.cells cs 31 (0,0))) (hne:X≠R) (hw:w.heap.size≤X) (i:Nat) (v:Value):Took w R ts n en (w'.setCell ⟨X,i,none⟩ v) :=
 ⟨⟨h.grown.os,h.grown.tape,h.grown.output,by rw[kAL];exact h.grown.size,fun k hk hn=>(kA5 _ _ _ _ kCX).trans (h.grown.block k hk hn)⟩,h.rdr.far hX hne i v⟩
theorem Took.set6 {w w':World} {R:Nat} {ts:List S47} {n en:Nat} (h:Took w R ts n en w') {X:Nat} {x0 x1 x2 x3 x4 x5:Value} (hX:w'.heap[X]?=some (.cells #[x0,x1,x2,x3,x4,x5] 31 (0,0))) (hne:X≠R) (hw:w.heap.size≤X) (v0 v1 v2 v3 v4 v5:Value):Took w R ts n en (set6 w' X v0 v1 v2 v3 v4 v5) :=
 (((((h.far hX hne hw 0 v0).far (zA7 hX 0 v0) hne hw 1 v1).far (zA7 (zA7 hX 0 v0) 1 v1) hne hw 2 v2).far (zA7 (zA7 (zA7 hX 0 v0) 1 v1) 2 v2) hne hw 3 v3).far (zA7 (zA7 (zA7 (zA7 hX 0 v0) 1 v1) 2 v2) 3 v3) hne hw 4 v4).far (zA7 (zA7 (zA7 (zA7 (zA7 hX 0 v0) 1 v1) 2 v2) 3 v3) 4 v4) hne hw 5 v5
theorem Took.start {w w':World} {R:Nat} {ts:List S47} {n en:Nat} {o:Obj} (h:Took (w.alloc o) R ts n en w'):Took w R ts n en w':=⟨kA6 (kAC w o _) h.grown,h.rdr⟩
theorem Took.alloc {w w':World} {R:Nat} {ts:List S47} {n en:Nat} (h:Took w R ts n en w') (o:Obj):Took w R ts n en (w'.alloc o):=h.below ((kA3 _ _).alloc (kA2 _) _)
theorem lit_plain (W0:World) (R B:Nat) (ts:List S47) (en now:Nat) (w:World) (E:Env W0 R B ts) (h:St W0 R B ts en now w) (h2:(tokP ts en now).f0=2) (hbar:sk ts en (now+1) ⟨#[124]⟩=false) :
  Calls Tryz.prog 278 #[.pointer (some ⟨R,0,none⟩)] w (zAj w R ts en now (zFb ts en ⟨(tokP ts en now).f1,⟨#[49]⟩⟩ (now+1))):=by
 have hlt:=zBG h2 kCW;have few:=E.few;have hRw:=h.rdr.lt;have hk:=zCz R ts now en 2 (w.alloc zO) (h.rdr.keep ((kA3 _ _).alloc (kA2 _) _)) hlt few kDo;generalize (tokP ts en now).f1=x at *;clear h2;by_cases h3:(tokP ts en (now+1)).f0=3
 ·have hres:zFb ts en ⟨x,⟨#[49]⟩⟩ (now+1)=.ok (⟨0,⟨x,⟨#[49]⟩⟩,(tokP ts en (now+1)).f1,0,[]⟩,now+1+1):=by unfold zFb;rw[kAa h3]
  rw[hres];have hlt1:=zBG h3 kCW;have hpk:=fun w' (hr:Rdr w' R ts (now+1) en)=>zAZ R ts (now+1) en w' hr kCT
  have hsk:=fun w' (hr:Rdr w' R ts (now+1) en)=>zAQ R ts (now+1) en ⟨#[124]⟩ w' hr kCT hbar
  have hkd:=fun w' (hr:Rdr w' R ts (now+1) en)=>zCz R ts (now+1) en 3 w' hr hlt1 few (by rw[kAx];exact h3)
  have hne:((tokP ts en (now+1)).f0==3)=true:=by rw[kAx];exact h3
  unfold tokV at hpk;generalize tokP ts en (now+1)=t at *;have H:=kA1 h;have Hsk:=kA1 hsk;have Hpk:=kA1 hpk;have Hkd:=kA1 hkd;have hfd:=zBI t.f0 t.f2 t.f1;clear hsk hpk hkd h hres h3 E;have hne0:=kAq hRw;go_enter Tryz.func278,Tryz.ntmps278;go_wp2_with fail;refine hk.mono ?_;rintro e w1 ⟨rfl,hk1⟩;have r1:=hk1.blk (zA4 w zO) hne0;have hne1:=kAq hk1.rdr.lt;go_wp2_with fail;refine (Hsk.out _ (hk1.rdr.keep ((kA3 _ _).alloc (kA2 _) _))).mono ?_;rintro e w2 ⟨rfl,hk2⟩;have x2:=hk2.blk (zA4 w1 _) hne1;have r2:=hk2.blk ((kA4 _ _ _ (zA5 r1)).trans r1) hne0;go_wp2_with fail;refine (Hpk.out _ hk2.rdr).mono ?_;rintro e w3 ⟨rfl,hb3⟩;go_wp2_with fail;refine (Hkd.out _ (hk2.rdr.keep hb3)).mono ?_;rintro e w4 ⟨rfl,hk4⟩;have x4:=hk4.blk (zA9 hb3 x2) hne1;have r4:=hk4.blk (zA9 hb3 r2) hne0;have hlt4:w.heap.size<w1.heap.size:=zA5 r1;have hd1:=kAq hlt4;have hd2:=kB4 hlt4;obtain⟨⟨c0,c1,c2,c3,c4,c5⟩,⟨y0,y1,y2,y3,y4,y5⟩,xl⟩:=zA6 x4;obtain⟨⟨b0,b1,b2,b3,b4,b5⟩,⟨f0,f1,f2,f3,f4,f5⟩,rl⟩:=zA6 r4;go_wp2;have hgr:=(((hk1.start.alloc _).trans hk2).below hb3).trans hk4;have r5:=(kA5 w4 ⟨w1.heap.size,3,none⟩ (.string t.f1) w.heap.size kCX).trans r4;refine kAi (zAg Tryz.results278 _ _ w.heap.size 31 _ (0,0) _ rfl (fin6 _ _ _ _ _ _ r5) Tryz.underlying31 rfl zAV) rfl ⟨kCT,kCT,_,rfl,?_,?_⟩
  ·exact Ex.leaf ⟨0,⟨x,⟨#[49]⟩⟩,t.f1,0,[]⟩ rfl
  ·exact (hgr.far x4 hne1 (kAX hlt4) 3 _).set6 r5 hne0 (kA2 _) _ _ _ _ _ _
 ·have hres:zFb ts en ⟨x,⟨#[49]⟩⟩ (now+1)=.ok (⟨0,⟨x,⟨#[49]⟩⟩,⟨#[]⟩,0,[]⟩,now+1):=by unfold zFb;rw[kA9 h3]
  rw[hres];have hpk:=fun w' (hr:Rdr w' R ts (now+1) en)=>zAZ R ts (now+1) en w' hr kCT
  have hsk:=fun w' (hr:Rdr w' R ts (now+1) en)=>zAQ R ts (now+1) en ⟨#[124]⟩ w' hr kCT hbar
  have hne:((tokP ts en (now+1)).f0==3)=false:=by rw[kAd];exact h3
  unfold tokV at hpk;generalize tokP ts en (now+1)=t at *;have H:=kA1 h;have Hsk:=kA1 hsk;have Hpk:=kA1 hpk;have hfd:=zBI t.f0 t.f2 t.f1;clear hsk hpk h hres h3 E;have hne0:=kAq hRw;go_enter Tryz.func278,Tryz.ntmps278;go_wp2_with fail;refine hk.mono ?_;rintro e w1 ⟨rfl,hk1⟩;have r1:=hk1.blk (zA4 w zO) hne0;have hne1:=kAq hk1.rdr.lt;go_wp2_with fail;refine (Hsk.out _ (hk1.rdr.keep ((kA3 _ _).alloc (kA2 _) _))).mono ?_;rintro e w2 ⟨rfl,hk2⟩;have x2:=hk2.blk (zA4 w1 _) hne1;have r2:=hk2.blk ((kA4 _ _ _ (zA5 r1)).trans r1) hne0;go_wp2_with fail;refine (Hpk.out _ hk2.rdr).mono ?_;rintro e w3 ⟨rfl,hb3⟩;have x3:=zA9 hb3 x2;have r3:=zA9 hb3 r2;obtain⟨⟨x0,x1,x2',x3',x4,x5⟩,⟨y0,y1,y2,y3,y4,y5⟩,xl⟩:=zA6 x3;obtain⟨⟨r0,r1',r2',r3',r4,r5⟩,⟨f0,f1,f2,f3,f4,f5⟩,rl⟩:=zA6 r3;go_wp2;have hgr:=((hk1.start.alloc _).trans hk2).below hb3;refine kAi (zAg Tryz.results278 _ _ w.heap.size 31 _ (0,0) _ rfl (fin6 _ _ _ _ _ _ r3) Tryz.underlying31 rfl zAV) rfl ⟨kCT,kCT,_,rfl,?_,?_⟩
  ·exact Ex.leaf ⟨0,⟨x,⟨#[49]⟩⟩,⟨#[]⟩,0,[]⟩ rfl
  ·exact hgr.set6 r3 hne0 (kA2 _) _ _ _ _ _ _
structure Vw (w:World) (x:S31) (v:Value):Prop where
 out:∃A c,v=exV x (.slice A x.f4.length c)∧x.f4.length≤c∧k31.C w A x.f4.length x.f4
theorem Vw.below {w w1:World} {x:S31} {v:Value} (h:Vw w x v) (hb:Below w.heap.size w w1):Vw w1 x v:=by
 obtain⟨A,c,h1,h2,h3⟩:=h.out;exact⟨A,c,h1,h2,Kd.C_below h3 hb⟩
theorem Ex.vw {w:World} {S:Nat→Prop} {x:S31} {v:Value} (h:Ex w S x v):Vw w x v:=by
 obtain⟨v5,h1,h2⟩:=h.out;obtain⟨A,c,rfl,h3,h4⟩:=Kd.R_reads h2;exact⟨A,c,h1,h3,h4⟩
mutual
def zAH:S31→Nat
 | ⟨_,_,_,_,l⟩=>zAP l+1
def zAP:List S31→Nat
 | []=>0
 | x :: l=>zAH x+zAP l
end
mutual
def zAC:S31→Nat
 | ⟨_,_,_,_,l⟩=>zB3 l+1
def zB3:List S31→Nat
 | []=>0
 | x :: l=>max (zAC x) (zB3 l)
end
theorem zBx (x:S31):zAH x=zAP x.f4+1:=by cases x;rfl
theorem zAr (x:S31):zAC x=zB3 x.f4+1:=by cases x;rfl
theorem zEq (l m:List S31):zAP (l++m)=zAP l+zAP m:=by
 induction l with
 | nil=>simp[zAP]
 | cons x l ih=>simp only[List.cons_append,zAP,ih];omega
theorem zEx (l m:List S31):zB3 (l++m)=max (zB3 l) (zB3 m):=by
 induction l with
 | nil=>simp[zB3]
 | cons x l ih=>simp only[List.cons_append,zB3,ih];omega
theorem zCC {α:Type} (l:List α) (j:Nat) (h:j<l.length):l.take (j+1)=l.take j++[l[j]]:=by rw[kBn h]
theorem zFN (l:List S31) (j:Nat) (h:j<l.length):zAP (l.take (j+1))=zAP (l.take j)+zAH l[j]:=by
 rw[zCC l j h,zEq];simp[zAP]
theorem depthL_take (l:List S31) (j:Nat) (h:j<l.length):zB3 (l.take (j+1))=max (zB3 (l.take j)) (zAC l[j]):=by
 rw[zCC l j h,zEx];simp[zB3]
theorem zB7 {x:S31} {l:List S31} (h:x∈l):zAC x≤zB3 l:=by
 induction l with
 | nil=>simp at h
 | cons y l ih =>
  simp only[zB3];rcases kAI.1 h with rfl | h
  ·omega
  ·have:=ih h;omega
theorem zCy (l:List S31):l.length≤zAP l:=by
 induction l with
 | nil=>exact kAT _
 | cons y l ih=>simp only[zAP,List.length_cons,zBx];omega
theorem zDN {x:S31} {l:List S31} (h:x∈l):zAH x≤zAP l:=by
 induction l with
 | nil=>simp at h
 | cons y l ih =>
  simp only[zAP];rcases kAI.1 h with rfl | h
  ·omega
  ·have:=ih h;omega
theorem zE2 (l:List S31) (j:Nat):zAP (l.take j)≤zAP l:=by
 have:=zEq (l.take j) (l.drop j);rw[kBC] at this;omega
theorem depthL_take_le (l:List S31) (j:Nat):zB3 (l.take j)≤zB3 l:=by
 have:=zEx (l.take j) (l.drop j);rw[kBC] at this;omega
theorem depth_nodesL:∀n,(∀x:S31,zAC x≤n→zAC x≤zAH x)∧(∀l:List S31,zB3 l≤n→zB3 l≤zAP l):=by
 have base:∀n,(∀x:S31,zAC x≤n→zAC x≤zAH x)→(∀l:List S31,zB3 l≤n→zB3 l≤zAP l):=by
  intro n hx l
  induction l with
  | nil=>intro _;simp[zB3]
  | cons y l ih =>
   simp only[zB3,zAP];intro h;have h1:=hx y kCT;have h2:=ih kCT;omega
 intro n
 induction n with
 | zero =>
  have hx:∀x:S31,zAC x≤0→zAC x≤zAH x:=fun x h=>by rw[zAr] at h;omega
  exact⟨hx,base 0 hx⟩
 | succ n ih =>
  have hx:∀x:S31,zAC x≤n+1→zAC x≤zAH x:=fun x h=>by
   rw[zAr] at h⊢;rw[zBx];have:=ih.2 x.f4 kCT;omega
  exact⟨hx,base (n+1) hx⟩
theorem zAo {w:World} {A:Option Addr} {xs:List S31} (h:k31.C w A xs.length xs) (j:Nat) (hj:j<xs.length) :
  ∃ad A5 c5,A=some ad∧w.cell? (ad.add (j*6))=some (.int .i64 (xs[j]).f0)∧w.cell? ⟨(ad.add (j*6)).block,(ad.add (j*6)).off+1,none⟩=some (.string (xs[j]).f1.f0) ∧
   w.cell? ⟨(ad.add (j*6)).block,(ad.add (j*6)).off+2,none⟩=some (.string (xs[j]).f1.f1)∧w.cell? ⟨(ad.add (j*6)).block,(ad.add (j*6)).off+3,none⟩=some (.string (xs[j]).f2) ∧
   w.cell? ⟨(ad.add (j*6)).block,(ad.add (j*6)).off+4,none⟩=some (.int .i64 (xs[j]).f3)∧w.cell? ⟨(ad.add (j*6)).block,(ad.add (j*6)).off+5,none⟩=some (.slice A5 (xs[j]).f4.length c5) ∧
   Vw w xs[j] (exV xs[j] (.slice A5 (xs[j]).f4.length c5)):=by
 have h1:=at_T31 h (j:Int) kCT kCT;have e:zDz xs (j:Int)=xs[j]:=by unfold zDz;simp[List.getD,hj]
 rw[e] at h1;obtain⟨ad,A5,c5,h2,h3,h4,h5,h6,h7,h8,h9,h10⟩:=h1;exact⟨ad,A5,c5,h2,h3,h4,h5,h6,h7,h8,⟨A5,c5,rfl,h9,h10⟩⟩
theorem most_add (g:Nat) (a b:Int) (w:World) (hg:w.heap[g]?=some (.cells #[.int .i64 a] 144 (0,0))) :
  Calls Tryz.prog 95 #[.pointer (some ⟨g,0,none⟩),.int .i64 b] w fun e w'=>e=.returned (.tuple #[])∧w'.heap[g]?=some (.cells #[.int .i64 (max a b)] 144 (0,0))∧w.grownBy w' (some g):=by
 have c0:=zA1 hg 0;have f0:=zA2 hg 0;have HG:=kA1 hg;clear hg;go_enter Tryz.func95,Tryz.ntmps95;go_wp2;refine kBd (kB0 rfl _ _ _) rfl ⟨rfl,?_,?_⟩
 ·exact zA7 HG.out 0 _
 ·exact kAf _ _ _ _
structure DeepAt (w:World) (xs:List S31) (j:Nat) (wr:World):Prop where
 res:wr.heap[w.heap.size+1]?=some (.cells #[.int .i64 0,.int .i64 0] 100 (0,0))
 out:wr.heap[w.heap.size+1+1]?=some (.cells #[.int .i64 (1+zAP (xs.take j):Nat),.int .i64 0] 100 (0,0))
 most:wr.heap[w.heap.size+1+1+1]?=some (.cells #[.int .i64 (zB3 (xs.take j))] 144 (0,0))
 below:Below w.heap.size w wr
theorem DeepAt.go {w:World} {xs:List S31} {j:Nat} {wr w1:World} (h:DeepAt w xs j wr) (hb:Below wr.heap.size wr w1):DeepAt w xs j w1 :=
 ⟨zA9 hb h.res,zA9 hb h.out,zA9 hb h.most,h.below.trans (hb.mono h.below.size)⟩
theorem zCF {j g n:Nat} (h:j+g=n) (hl:j<n):j+1+(g-1)=n:=kCT
theorem size100:(Tryz.prog.info? 100).map (·.size)=some 2:=kCU
theorem zET:∀(n:Nat) (x:S31),zAC x≤n→zAH x≤4611686018427387904→∀(v:Value) (w:World),Vw w x v →
  Calls Tryz.prog 57 #[v] w fun e w'=>e=.returned (.agg #[.int .i64 (zAH x),.int .i64 (zAC x)])∧Below w.heap.size w w':=by
 intro n
 induction n with
 | zero=>intro x h;rw[zAr] at h;omega
 | succ n ih =>
  intro x hd hn v w hv;obtain⟨A,c,rfl,hc1,hc2⟩:=hv.out;rw[zAr] at hd;rw[zBx] at hn;have hrec:∀(j:Nat) (hj:j<x.f4.length) v w,Vw w x.f4[j] v→Calls Tryz.prog 57 #[v] w fun e w'=>e=.returned (.agg #[.int .i64 (zAH x.f4[j]),.int .i64 (zAC x.f4[j])])∧Below w.heap.size w w':=by
   intro j hj;have h1:=zB7 (kAA hj);have h2:=zDN (kAA hj);exact ih _ kCT kCT
  rw[zBx,zAr];have hnt:=zFN x.f4;have hdt:=depthL_take x.f4;have hnl:=zE2 x.f4;have hdl:=depthL_take_le x.f4;have hdn:zB3 x.f4≤zAP x.f4:=(depth_nodesL (zB3 x.f4)).2 _ (kA2 _);have hlen:=zCy x.f4;have htk:x.f4.take x.f4.length=x.f4:=kB1;obtain⟨f0,f1,f2,f3,xs⟩:=x;simp only at *;clear ih hv;unfold exV;simp only;have HR:=kA1 hrec;have HN:=kA1 hnt;have HD:=kA1 hdt;have HNL:=kA1 hnl;have HDL:=kA1 hdl;have HT:=kA1 htk;have HC:=kA1 hc2;clear hrec hnt hdt hnl hdl htk hc2;go_enter Tryz.func57,Tryz.ntmps57;go_wp2;have hat:DeepAt w xs 0 ((((w.alloc (.cells #[.int .i64 f0,.string f1.f0,.string f1.f1,.string f2,.int .i64 f3,.slice A xs.length c] 31)).alloc (.cells #[.int .i64 0,.int .i64 0] 100)).alloc (.cells #[.int .i64 1,.int .i64 0] 100)).alloc (.cells #[.int .i64 0] 144)):=by
   refine⟨?_,?_,zAu _ _ _ kCV,(((((kA3 _ w).alloc (kA2 _) _).alloc kCV _).alloc kCX _).alloc kCX _)⟩
   ·exact (kA4 _ _ _ kD8).trans ((kA4 _ _ _ kCV).trans (zAu _ _ _ kCV))
   ·exact (kA4 _ _ _ kD8).trans (zAu _ _ _ kCV)
  generalize (((w.alloc (.cells #[.int .i64 f0,.string f1.f0,.string f1.f1,.string f2,.int .i64 f3,.slice A xs.length c] 31)).alloc (.cells #[.int .i64 0,.int .i64 0] 100)).alloc (.cells #[.int .i64 1,.int .i64 0] 100)).alloc (.cells #[.int .i64 0] 144)=W0 at *;go_loopg [12] xs.length (fun k i wr=>∃j:Nat,j+k=xs.length∧i=.int .i64 j∧DeepAt w xs j wr)
  case atStart=>exact⟨0,kCT,rfl,hat⟩
  case round =>
   clear hat;obtain⟨j,hj,rfl,hat⟩:=hrel;by_cases hjl:j<xs.length
   ·obtain⟨ad,A5,c5,rfl,q0,q1,q2,q3,q4,q5,hvw⟩:=zAo (Kd.C_below HC.out hat.below) j hjl;have hr:=HR.out j hjl;have hn1:=HN.out j hjl;have hd1:=HD.out j hjl;have hn2:=HNL.out (j+1);generalize xs[j]=y at *;have Hvw:=kA1 hvw;clear hvw;go_wp2_with fail;refine (hr _ _ (Hvw.out.below ((kA3 _ _).alloc (kA2 _) _))).mono ?_;rintro e w1 ⟨rfl,hb1⟩;have hat1:=hat.go (((kA3 _ _).alloc (kA2 _) _).trans (hb1.mono kCV));have o0:=zA1 hat1.out 0;have o1:=zA2 hat1.out 0;have ol:=zA5 hat1.out;have ml:=zA5 hat1.most;have hsum:((1+zAP (xs.take j):Nat):Int)+(zAH y:Int)≤4611686018427387904:=kCT
    have Hat:=kA1 hat1;clear hat hat1 hr;go_wp2_with fail;have hmost:((w1.setCell ⟨w.heap.size+1+1,0,none⟩ (.int .i64 (1+↑(zAP (List.take j xs))+↑(zAH y)))).alloc (.cells #[.int .i64 (zAH y),.int .i64 (zAC y)] 100)).heap[w.heap.size+1+1+1]?=some (.cells #[.int .i64 (zB3 (xs.take j))] 144 (0,0)) :=
     (kA4 _ _ _ kCX).trans ((kA5 _ _ _ _ kCV).trans Hat.out.most)
    refine (most_add _ _ _ _ hmost).mono ?_;rintro e w2 ⟨rfl,hm2,hg2⟩;have out2:=(hg2.block (w.heap.size+1+1) kCX kCZ).trans ((kA4 _ _ _ kCX).trans (zA7 Hat.out.out 0 (.int .i64 (1+↑(zAP (List.take j xs))+↑(zAH y)))));have res2:=(hg2.block (w.heap.size+1) kCX kCZ).trans ((kA4 _ _ _ kCX).trans ((kA5 _ _ _ _ kCV).trans Hat.out.res));have bel2:=((Hat.out.below.setCell (p:=⟨w.heap.size+1+1,0,none⟩) kCX (.int .i64 (1+↑(zAP (List.take j xs))+↑(zAH y)))).alloc kCX (.cells #[.int .i64 (zAH y),.int .i64 (zAC y)] 100)).grown hg2 kCX (fun k e=>by injection e with e;omega);have hat2:DeepAt w xs (j+1) w2:=by
     refine⟨res2,?_,?_,bel2⟩
     ·rw[hn1,out2];congr 3;simp;omega
     ·rw[hd1,hm2];congr 3;simp;omega
    clear hmost hm2 hg2 out2 res2 bel2;go_wp2;go_roundg (gk-1)
    case measure=>omega
    case rel=>exact⟨j+1,zCF hj hjl,by go_num,hat2⟩
   ·obtain rfl:j=xs.length:=kCT
    have m0:=zA1 hat.most 0;have o0:=zA1 hat.out 0;have o1:=zA1 hat.out 1;have e1:=zA2 hat.out 1;have s0:=zA1 hat.res 0;have s1:=zA1 hat.res 1;have r0:=zA2 hat.res 0;have r1:=zA2 hat.res 1;have Hat:=kA1 hat;clear hat;go_wp2;have fin:(((wr.setCell ⟨w.heap.size+1+1,1,none⟩ (.int .i64 (↑(zB3 xs)+1))).setCell ⟨w.heap.size+1,0,none⟩ (.int .i64 (1+↑(zAP xs)))).setCell ⟨w.heap.size+1,1,none⟩ (.int .i64 (↑(zB3 xs)+1))).heap[w.heap.size+1]?=some (.cells #[.int .i64 (1+↑(zAP xs)),.int .i64 (↑(zB3 xs)+1)] 100 (0,0)) :=
     zA7 (zA7 ((kA5 _ _ _ _ kCV).trans Hat.out.res) 0 _) 1 _
    refine kAi (zAg Tryz.results57 _ _ (w.heap.size+1) 100 _ (0,0) _ rfl fin Tryz.underlying100 rfl size100) rfl ⟨?_,((Hat.out.below.setCell (p:=⟨w.heap.size+1+1,1,none⟩) kCX _).setCell (p:=⟨w.heap.size+1,0,none⟩) kCV _).setCell (p:=⟨w.heap.size+1,1,none⟩) kCV _⟩;congr 4
    ·congr 1;simp;omega
theorem as137_134 (v:Value) (w:World):(Instr.typeAssert (.iface 137 v) 20 134 true).run Tryz.prog w=.ok (.tuple #[.iface 137 v,.bool true]) w:=kCq Tryz.underlying134 kCU v 20 w
theorem zEA (w:World):(Instr.typeAssert .nilIface 20 134 true).run Tryz.prog w=.ok (.tuple #[.nilIface,.bool false]) w:=kCU
theorem catch_idle (p:Addr) (w:World) :
  CallsD Tryz.prog 90 #[.pointer (some p)] .returning w fun e u' w'=>e=.returned (.tuple #[])∧u'=.returning∧w'=w:=by
 have hta:=zEA;refine kC5 Tryz.func90 rfl fun c₀ cs hu=>?_
 apply wpS_seq;apply kCB;simp[wpOpsS,go_sem,recoverD,hu,Tryz.ntmps90,Exit.thenS,hta];refine wpS_of_wp ?_;simp only[kAY,Array.replicate_zero,kBj,kAP,List.nil_append,List.cons_append,kA0,List.set_cons_zero,List.set_cons_succ];go_wp2
 cases c₀
 simp_all [bodyPostS,results,Tryz.results90,Exit.thenS]
theorem zC5 (p:Nat) (n:Int) (old:Value) (older:List PanicEntry) (w:World) (hp:w.heap[p]?=some (.cells #[old] 3 (0,0))) (hg:w.cell? ⟨0,0,none⟩=some (.iface 209 (.agg #[.pointer (some ⟨7,134,none⟩)]))) :
  CallsD Tryz.prog 90 #[.pointer (some ⟨p,0,none⟩)] (.panicking ({ v:=.iface 137 (.agg #[.int .i64 n]),recovered:=false } :: older)) w fun e u' w' =>
   e=.returned (.tuple #[])∧u'=.panicking ({ v:=.iface 137 (.agg #[.int .i64 n]),recovered:=true } :: older)∧w'.heap[p]?=some (.cells #[.int .i64 n] 3 (0,0))∧w.grownBy w' (some p):=by
 have hta:=as137_134;refine kC5 Tryz.func90 rfl fun c₀ cs hu=>?_
 apply wpS_seq;apply kCB;simp[wpOpsS,go_sem,recoverD,hu,Tryz.ntmps90,Exit.thenS,hta];refine wpS_of_wp ?_;simp only[kAY,Array.replicate_zero,kBj,kAP,List.nil_append,List.cons_append,kA0,List.set_cons_zero,List.set_cons_succ];have hpl:=zA5 hp;have hh:=as_hitG as_ok137 n w.heap.size (.int .i64 0) (w.alloc (.cells #[.int .i64 0] 137)) ((kBt _ _ ⟨0,0,none⟩ kDf).trans hg) (zA4 _ _);go_wp2_with fail;refine hh.mono ?_;rintro e w2 ⟨rfl,W,hb,rfl⟩;have hs2:=zA9 hb (zA4 w (.cells #[.int .i64 0] 137));have hs3:=zA7 hs2 0 (.int .i64 n);have hp2:=(kA5 W ⟨w.heap.size,0,none⟩ (.int .i64 n) p kDf).trans (zA9 hb ((kA4 _ _ _ hpl).trans hp));have c1:=zA1 hs3 0;have c2:=zA1 hp2 0;have f2:=zA2 hp2 0;have hfin:=zA7 hp2 0 (.int .i64 n);have hgr:w.grownBy (((W.setCell ⟨w.heap.size,0,none⟩ (.int .i64 n))).setCell ⟨p,0,none⟩ (.int .i64 n)) (some p) :=
  kA6 (kAe (kAF _ _) ((((kA3 _ w).alloc (kA2 _) (.cells #[.int .i64 0] 137)).trans (hb.mono kCV)).setCell (p:=⟨w.heap.size,0,none⟩) (kA2 _) _)) (kAf _ _ _ _)
 go_wp2;have hfin':((W.setCell ⟨w.heap.size,0,none⟩ (.int .i64 n)).setCell ⟨p,0,none⟩ (.int .i64 n)).heap[p]?=some (.cells #[.int .i64 n] 3 (0,0)):=hfin;generalize (W.setCell ⟨w.heap.size,0,none⟩ (.int .i64 n)).setCell ⟨p,0,none⟩ (.int .i64 n)=WW at *;simp[bodyPostS,results,Tryz.results90,hfin',hgr]
theorem zDB (s:ByteArray) (hs:s.size≤2000) (w:World):Calls Tryz.prog 92 #[.string s] w fun e w' =>
  ∃R,e=.returned (.pointer (some ⟨R,0,none⟩))∧w.heap.size≤R∧Rdr w' R (zA8 s) 0 s.size∧Below w.heap.size w w':=by
 have hq:=newQueue_calls s hs w;have hmf:∀(fn:Fn) (first cap:Array Value) (w:World),(Instr.makeFunc fn first cap).run Tryz.prog w=.ok (.func fn first cap) w:=fun _ _ _ _=>rfl
 go_enter Tryz.func92,Tryz.ntmps92;go_wp2_with fail;refine hq.mono ?_;rintro e w1 ⟨v,rfl,ho,hb⟩;obtain⟨A,c,rfl⟩:=zC3 ho;have hn:=zA4 w1 (.cells #[.slice A (zA8 s).length c,.int .i64 0,.int .i64 s.size,.func (.func 134) #[] #[],.nilFunc] 97);have cc:(w1.alloc (.cells #[.slice A (zA8 s).length c,.int .i64 0,.int .i64 s.size,.func (.func 134) #[] #[],.nilFunc] 97)).cell? ⟨w1.heap.size,4,none⟩=some .nilFunc:=zA1 hn 4;have ff:=zA2 hn 4;have hst:(store ⟨w1.heap.size,4,none⟩ (.func (.func 135) #[.pointer (some ⟨w1.heap.size,0,none⟩)] #[])).run Tryz.prog (w1.alloc (.cells #[.slice A (zA8 s).length c,.int .i64 0,.int .i64 s.size,.func (.func 134) #[] #[],.nilFunc] 97))=.ok () ((w1.alloc (.cells #[.slice A (zA8 s).length c,.int .i64 0,.int .i64 s.size,.func (.func 134) #[] #[],.nilFunc] 97)).setCell ⟨w1.heap.size,4,none⟩ (.func (.func 135) #[.pointer (some ⟨w1.heap.size,0,none⟩)] #[])):=by
  rw[run_store Tryz.prog _ _ _ _ kCY];rw[cc,ff];rfl
 go_wp2;go_ret;exact⟨_,rfl,hb.size,⟨.slice A (zA8 s).length c,w.heap.size,zA4 w1 _,zBU ho ((kA3 _ w1).alloc (kA2 _) _)⟩,hb.alloc hb.size _⟩
theorem zFT (R:Nat) (ts:List S47) (now en:Nat) (w:World) (h:Rdr w R ts now en) :
  ∃A c,Calls Tryz.prog 94 #[.pointer (some ⟨R,0,none⟩)] w fun e w'=>e=.returned (.slice A ts.length c)∧w'=w:=by
 obtain⟨v,base,h1,h2⟩:=h.out;obtain⟨A,c,rfl⟩:=zC3 h2;have d0:w.cell? ⟨R,0,none⟩=some (.slice A ts.length c):=zA1 h1 0;have hRl:=zA5 h1;clear h h1 h2;refine⟨A,c,?_⟩;go_enter Tryz.func94,Tryz.ntmps94;go_wp2;go_ret;exact⟨rfl,rfl⟩
def zBv (chk:S28→Int) (s:ByteArray):PR:=zCY (zA8 s) s.size chk ((zA8 s).length+1) 0
def zBV (chk:S28→Int) (s:ByteArray):Int :=
 match zBv chk s with
 | .error p=>p
 | .ok (_,n)=>if n=(zA8 s).length then -1 else (tokP (zA8 s) s.size n).f2
structure Readable (chk:S28→Int) (s:ByteArray):Prop where
 size:s.size≤2000
 few:(zA8 s).length≤100000
 small:∀t∈zA8 s,t.f1.size≤2000
 pars:∀W0 R B,Env W0 R B (zA8 s)→Pars W0 R B (zA8 s) s.size 134 (zCY (zA8 s) s.size chk ((zA8 s).length+1)) 0
def exC (x:S31) (v5:Value):Array Value:=#[.int .i64 x.f0,.string x.f1.f0,.string x.f1.f1,.string x.f2,.int .i64 x.f3,v5]
def zGa (w:World) (R X:Nat) (ts:List S47) (en:Nat):PR→Ending→World→Prop
 | .ok (x,n),e,w'=>n≤ts.length∧e=.returned (.tuple #[])∧∃v5 w5,Took w R ts n en w5∧Ex w5 (From w.heap.size) x (exV x v5) ∧
   w'=set6 w5 X (.int .i64 x.f0) (.string x.f1.f0) (.string x.f1.f1) (.string x.f2) (.int .i64 x.f3) v5
 | .error p,e,w'=>e=zAk p∧w.grownBy w' (some R)
theorem do56 (R X:Nat) (ts:List S47) (now en:Nat) (w:World) (h:Rdr w R ts now en) (r:PR) {x0 x1 x2 x3 x4 x5:Value} (hX:w.heap[X]?=some (.cells #[x0,x1,x2,x3,x4,x5] 31 (0,0))) (hne:X≠R)
  (hc:Calls Tryz.prog 134 #[.pointer (some ⟨R,0,none⟩)] w (zAj w R ts en now r)) :
  Calls Tryz.prog 56 #[.pointer (some ⟨R,0,none⟩),.pointer (some ⟨X,0,none⟩)] w (zGa w R X ts en r):=by
 obtain⟨v,base,h1,h2⟩:=h.out;have d3:w.cell? ⟨R,3,none⟩=some (.func (.func 134) #[] #[]):=zA1 h1 3;have hRl:=zA5 h1;clear h h1 h2
 cases r with
 | error p =>
  unfold zAj zAk at hc;go_enter Tryz.func56,Tryz.ntmps56;go_wp2_with (go_at_call 134;refine hc.mono ?_;rintro e w1 ⟨rfl,hg⟩);exact⟨rfl,rfl,hg⟩
 | ok r =>
  obtain⟨x,n⟩:=r;unfold zAj at hc;go_enter Tryz.func56,Tryz.ntmps56;go_wp2_with fail;refine hc.mono ?_;rintro e w5 ⟨hn1,hn2,v,rfl,hx,hk⟩;obtain⟨v5,A5,n5,c5,rfl,rfl,_,_⟩:=hx.cells;have hX5:=hk.blk hX hne;obtain⟨⟨q0,q1,q2,q3,q4,q5⟩,⟨f0,f1,f2,f3,f4,f5⟩,xl⟩:=zA6 hX5;have Hx:=kA1 hx;unfold exV;clear hx;go_wp2;refine kBd (kB0 rfl _ _ _) rfl ⟨hn2,rfl,_,w5,hk,Hx.out,rfl⟩
structure Start (W:World):Prop where
 laid:Laid W
 err:W.cell? ⟨0,0,none⟩=some (.iface 209 (.agg #[.pointer (some ⟨7,134,none⟩)]))
theorem Start.below {W w:World} (h:Start W) (hb:Below W.heap.size W w):Start w:=⟨h.laid.below hb,zA0 hb h.err⟩
theorem zDd {w w':World} {R:Nat} (k:Option Nat) (h:w.grownBy w' (some R)) (hR:w.heap.size≤R):w.grownBy w' k :=
 ⟨h.os,h.tape,h.output,h.size,fun j hj _=>h.block j hj (fun e=>by injection e with e;omega)⟩
theorem zFU {w w':World} {k:Option Nat} (h:w.grownBy w' k) (p:Addr) (hp:w.heap.size≤p.block) (v:Value):w.grownBy (w'.setCell p v) k :=
 ⟨h.os,h.tape,h.output,by rw[kAL];exact h.size,fun j hj hn=>(kA5 _ _ _ _ kCT).trans (h.block j hj hn)⟩
theorem cell_grown {w w':World} {R:Nat} (h:w.grownBy w' (some R)) {a:Addr} {v:Value} (hc:w.cell? a=some v) (hne:a.block≠R):w'.cell? a=some v :=
 by
 have:=h.block a.block (kAE w a hc) (fun e=>by injection e with e;exact hne e);simpa[World.cell?,this] using hc
theorem Rdr.set6 {w:World} {R:Nat} {ts:List S47} {now en:Nat} (h:Rdr w R ts now en) {X:Nat} {x0 x1 x2 x3 x4 x5:Value} (hX:w.heap[X]?=some (.cells #[x0,x1,x2,x3,x4,x5] 31 (0,0))) (hne:X≠R) (v0 v1 v2 v3 v4 v5:Value):Rdr (set6 w X v0 v1 v2 v3 v4 v5) R ts now en :=
 (((((h.far hX hne 0 v0).far (zA7 hX 0 v0) hne 1 v1).far (zA7 (zA7 hX 0 v0) 1 v1) hne 2 v2).far (zA7 (zA7 (zA7 hX 0 v0) 1 v1) 2 v2) hne 3 v3).far (zA7 (zA7 (zA7 (zA7 hX 0 v0) 1 v1) 2 v2) 3 v3) hne 4 v4).far (zA7 (zA7 (zA7 (zA7 (zA7 hX 0 v0) 1 v1) 2 v2) 3 v3) 4 v4) hne 5 v5
def zBN (chk:S28→Int) (s:ByteArray) (X:Nat) (w:World) (e:Ending) (w':World):Prop :=
 e=.returned (.int .i64 (zBV chk s))∧w.grownBy w' (some X) ∧
  ∀x,zBv chk s=.ok (x,(zA8 s).length)→∃v5,w'.heap[X]?=some (.cells (exC x v5) 31 (0,0))∧Ex w' (From w.heap.size) x (exV x v5)
theorem whole_calls (chk:S28→Int) (s:ByteArray) (h:Readable chk s) (X:Nat) (w:World) (hS:Start w) (hX0:X≠0) {x0 x1 x2 x3 x4 x5:Value} (hX:w.heap[X]?=some (.cells #[x0,x1,x2,x3,x4,x5] 31 (0,0))) :
  Calls Tryz.prog 55 #[.string s,.func (.func 56) #[] #[.pointer (some ⟨X,0,none⟩)]] w (zBN chk s X w):=by
 have hXl:=zA5 hX;have hmf:∀(fn:Fn) (first cap:Array Value) (w:World),(Instr.makeFunc fn first cap).run Tryz.prog w=.ok (.func fn first cap) w:=fun _ _ _ _=>rfl
 have hb0:Below w.heap.size w (w.alloc (.cells #[.int .i64 0] 3)):=(kA3 _ w).alloc (kA2 _) _;have hnr:=zDB s h.size (w.alloc (.cells #[.int .i64 0] 3));have h0:(w.alloc (.cells #[.int .i64 0] 3)).heap[w.heap.size]?=some (.cells #[.int .i64 0] 3 (0,0)):=zA4 w _;go_enter_defers Tryz.func55,Tryz.ntmps55;go_wp2_with fail;refine hnr.mono ?_;rintro e w1 ⟨R,rfl,hR,hrd,hb1⟩;have hR':=hR;simp only[kAz] at hR;have hX1:w1.heap[X]?=some (.cells #[x0,x1,x2,x3,x4,x5] 31 (0,0)):=zA9 hb1 ((kA4 _ _ _ hXl).trans hX);have hs1:w1.heap[w.heap.size]?=some (.cells #[.int .i64 0] 3 (0,0)):=zA9 hb1 h0;have hw1:Below w.heap.size w w1:=hb0.trans (hb1.mono kCV);have hXR:X≠R:=kCT
 have hE:Env (w.alloc (.cells #[.int .i64 0] 3)) R w1.heap.size (zA8 s):=⟨hS.laid.below hb0,hR',hrd.lt,h.few,h.small⟩;have hp:=h.pars _ R _ hE 0 w1 (kA2 _) ⟨hrd,hb1,kA2 _,kAT _⟩;have h56:=do56 R X (zA8 s) 0 s.size w1 hrd _ hX1 hXR hp;have hfew:=h.few;have herr:=hS.err;change Calls _ _ _ _ (zGa w1 R X (zA8 s) s.size (zBv chk s)) at h56;have hq:∃q,q=zBV chk s:=⟨_,rfl⟩;unfold zBV at hq
 cases hr:zBv chk s with
 | error p =>
  rw[hr] at h56 hq;obtain⟨q,hq⟩:=hq;unfold zGa zAk at h56;clear hE hp h;go_wp2_with fail;refine h56.mono ?_;rintro e w2 ⟨rfl,hg2⟩;have hw2:w.grownBy w2 (some R):=kA6 (kAe (kAF _ _) hw1) hg2;have hs2:=zAe hg2 hs1 kCT;have hX2:=zAe hg2 hX1 hXR;have hc2:w2.cell? ⟨0,0,none⟩=some (.iface 209 (.agg #[.pointer (some ⟨7,134,none⟩)])):=zA0 (hw1.grown hg2 hw1.size (fun j e=>by injection e with e;omega)) herr;go_wp2;refine kBR (f:=90) (args:=#[.pointer (some ⟨w.heap.size,0,none⟩)]) kCV kD9 ?_;refine (zC5 w.heap.size p (.int .i64 0) [] w2 hs2 hc2).mono ?_;rintro e u w3 ⟨rfl,rfl,hs3,hg3⟩;have c4:w3.cell? ⟨w.heap.size,0,none⟩=some (.int .i64 p):=zA1 hs3 0;have hfin:zBN chk s X w (.returned (.int .i64 p)) w3:=by
   refine⟨?_,?_,?_⟩
   ·unfold zBV;rw[hr]
   ·exact zDd _ (kA6 (zDd _ hw2 kCT) hg3) (kA2 _)
   ·intro x hx;rw[hr] at hx;cases hx
  simp[Leaves,settle,results,Tryz.results55,go_sem,c4,hfin]
 | ok r =>
  obtain⟨x,n⟩:=r;rw[hr] at h56 hq;obtain⟨q,hq⟩:=hq;unfold zGa at h56;clear hE hp h;go_wp2_with fail;refine h56.mono ?_;rintro e w2 ⟨hn,rfl,v5,w5,hk,hx,rfl⟩;have hX5:=hk.blk hX1 hXR;have hrd3:=hk.rdr.set6 hX5 hXR (.int .i64 x.f0) (.string x.f1.f0) (.string x.f1.f1) (.string x.f2) (.int .i64 x.f3) v5;have hX3:=fin6 (.int .i64 x.f0) (.string x.f1.f0) (.string x.f1.f1) (.string x.f2) (.int .i64 x.f3) v5 hX5;have hws:w.heap.size<w1.heap.size:=zA5 hs1;have hx3:=hx.set6 (R:=X) (fun k hk e=>by have:w1.heap.size≤k:=hk;omega) (.int .i64 x.f0) (.string x.f1.f0) (.string x.f1.f1) (.string x.f2) (.int .i64 x.f3) v5;have hg3:w.grownBy (set6 w5 X (.int .i64 x.f0) (.string x.f1.f0) (.string x.f1.f1) (.string x.f2) (.int .i64 x.f3) v5) (some X) :=
   kA6 (zDd _ (kA6 (kAe (kAF _ _) hw1) hk.grown) kCT) (zCq _ _ _ _ _ _ _)
  have hs3:(set6 w5 X (.int .i64 x.f0) (.string x.f1.f0) (.string x.f1.f1) (.string x.f2) (.int .i64 x.f3) v5).heap[w.heap.size]?=some (.cells #[.int .i64 0] 3 (0,0)) :=
   zAe (zCq X _ _ _ _ _ _) (hk.blk hs1 kCT) kCT
  have hsz3:w.heap.size<(set6 w5 X (.int .i64 x.f0) (.string x.f1.f0) (.string x.f1.f1) (.string x.f2) (.int .i64 x.f3) v5).heap.size:=zA5 hs3;generalize set6 w5 X (.int .i64 x.f0) (.string x.f1.f0) (.string x.f1.f1) (.string x.f2) (.int .i64 x.f3) v5=w3 at *;have hc3:=cell_grown hg3 herr (fun e=>hX0 e.symm);obtain⟨d0,g0,d1,d2,hlt3⟩:=hrd3.cells;have hrd4:Rdr w3.drew R (zA8 s) n s.size:=hrd3.keep (kA3 _ w3).drew;obtain⟨A,c,hl0⟩:=zFT R _ _ _ w3.drew hrd4;have hs4:w3.drew.heap[w.heap.size]?=some (.cells #[.int .i64 0] 3 (0,0)):=zA9 (kA3 _ w3).drew hs3;have hg4:w.grownBy w3.drew (some X):=kAe hg3 (kA3 _ w3).drew;have hX4:=zA9 (kA3 _ w3).drew hX3;have hx4:=hx3.below (kA3 _ w3).drew;have hc4:=zA0 (kA3 _ w3).drew hc3;by_cases hnl:n=(zA8 s).length
  ·rw[kAa hnl] at hq;subst hnl;have heq:(((zA8 s).length:Int)==(zA8 s).length)=true:=by rw[kAx]
   have hs5:=zA7 hs4 0 (.int .i64 (-1));have hf4:=zA2 hs4 0;have hf3:=zA2 hs3 0;have hcc3:=zA1 hs3 0;have hfin:zBN chk s X w (.returned (.int .i64 (-1))) (w3.setCell ⟨w.heap.size,0,none⟩ (.int .i64 (-1))).drew:=by
    refine⟨?_,?_,?_⟩
    ·unfold zBV;rw[hr];simp
    ·exact kAe (zFU hg3 ⟨w.heap.size,0,none⟩ (kA2 _) _) (kA3 _ _).drew
    ·intro x' hx';rw[hr] at hx';injection hx' with hx';injection hx' with hx' _;subst hx';refine⟨v5,zA9 (kA3 _ _).drew ((kA5 _ _ _ _ kCX).trans hX3),Ex.mono (Ex.below (Ex.step hx3 (fun k hk hlt=>?_)) (kA3 _ _).drew) (fun k hk=>kAB (kAX hws) hk)⟩;exact kA5 _ _ _ _ (by have:w1.heap.size≤k:=hk;simp;omega)
   go_wp2_with fail;go_still_tail 12,kCU;still_call hl0
   repeat still_step
   try refine kCy ?_
   change wpList _ _ _ _ _ w3.drew;go_wp2_with (go_at_call 93;refine (zD9 R _).mono ?_;rintro e w6 ⟨rfl,rfl⟩);have c4:(w3.setCell ⟨w.heap.size,0,none⟩ (.int .i64 (-1))).drew.cell? ⟨w.heap.size,0,none⟩=some (.int .i64 (-1)):=by
    have:=zA1 (zA9 (kA3 _ _).drew (zA7 hs3 0 (.int .i64 (-1)))) 0;exact this
   generalize (w3.setCell ⟨w.heap.size,0,none⟩ (.int .i64 (-1))).drew=w9 at *;refine kBR (f:=90) (args:=#[.pointer (some ⟨w.heap.size,0,none⟩)]) kCV kD9 ?_;refine (catch_idle ⟨w.heap.size,0,none⟩ w9).mono ?_;rintro e u w6 ⟨rfl,rfl,rfl⟩;simp[Leaves,settle,results,Tryz.results55,go_sem,c4,hfin]
  ·rw[kA9 hnl] at hq;have heq:((n:Int)==(zA8 s).length)=false:=by rw[kAd];omega
   have hmust:=zBD R _ _ _ w3.drew hrd4 hn;rw[← hq] at hmust;unfold zAk at hmust;go_wp2_with fail;go_still_tail 12,kCU;still_call hl0
   repeat still_step
   try refine kCy ?_
   change wpList _ _ _ _ _ w3.drew;go_wp2_with (go_at_call 93;refine hmust.mono ?_;rintro e w6 ⟨rfl,hb6⟩);have hs6:=zA9 hb6 hs4;have hc6:=zA0 hb6 hc4;refine kBR (f:=90) (args:=#[.pointer (some ⟨w.heap.size,0,none⟩)]) kCV kD9 ?_;refine (zC5 w.heap.size (tokP (zA8 s) s.size n).f2 (.int .i64 0) [] w6 hs6 hc6).mono ?_;rintro e u w7 ⟨rfl,rfl,hs7,hg7⟩;have c4:w7.cell? ⟨w.heap.size,0,none⟩=some (.int .i64 (tokP (zA8 s) s.size n).f2):=zA1 hs7 0;have hfin:zBN chk s X w (.returned (.int .i64 (tokP (zA8 s) s.size n).f2)) w7:=by
    refine⟨?_,?_,?_⟩
    ·unfold zBV;rw[hr];simp only[kA9 hnl]
    ·have h6:=kAe hg4 hb6;exact⟨hg7.os.trans h6.os,hg7.tape.trans h6.tape,hg7.output.trans h6.output,kAB h6.size hg7.size,fun j hj hne=>(hg7.block j (kBa hj h6.size) (fun e=>by injection e with e;omega)).trans (h6.block j hj hne)⟩
    ·intro x' hx';rw[hr] at hx';injection hx' with hx';injection hx' with _ hx';exact absurd hx' hnl
   simp[Leaves,settle,results,Tryz.results55,go_sem,c4,hfin]
theorem fail255_no (e:Int) (w:World):Calls Tryz.prog 255 #[.bool false,.int .i64 e] w fun en w'=>en=.returned (.tuple #[])∧w'=w:=by
 go_enter Tryz.func255,Tryz.ntmps255;go_wp2;exact kBd (kB0 rfl _ _ _) rfl ⟨rfl,rfl⟩
theorem zES (e:Int) (w:World):Calls Tryz.prog 188 #[.bool false,.int .i64 e] w fun en w'=>en=.returned (.tuple #[])∧w'=w:=by
 go_enter Tryz.func188,Tryz.ntmps188;go_wp2;exact kBd (kB0 rfl _ _ _) rfl ⟨rfl,rfl⟩
theorem caught225_nil (w:World):Calls Tryz.prog 225 #[.nilIface] w fun e w'=>e=.returned (.int .i64 0)∧w'=w:=by
 have hta:=zEA;go_enter Tryz.func225,Tryz.ntmps225;go_wp2;go_ret;exact⟨rfl,rfl⟩
theorem catch224_idle (p:Nat) (old:Value) (w:World) (hp:w.heap[p]?=some (.cells #[old] 36 (0,0))) :
  CallsD Tryz.prog 224 #[.pointer (some ⟨p,0,none⟩)] .returning w fun e u' w'=>e=.returned (.tuple #[])∧u'=.returning∧w'=w.setCell ⟨p,0,none⟩ (.int .i64 0):=by
 have hta:=caught225_nil w;have f0:=zA2 hp 0;have c0:=zA1 hp 0;refine kC5 Tryz.func224 rfl fun c₀ cs hu=>?_
 apply kCB;simp[wpOpsS,go_sem,recoverD,hu,Tryz.ntmps224,Exit.thenS];refine hta.mono ?_;rintro e w' ⟨rfl,hw⟩;subst w';simp[go_sem,c0,f0,Oper.upon,Result.andThen]
 cases c₀
 simp_all [bodyPostS,results,Tryz.results224]
theorem caught167_nil (w:World):Calls Tryz.prog 167 #[.nilIface] w fun e w'=>e=.returned (.int .i64 0)∧w'=w:=by
 have hta:=zEA;go_enter Tryz.func167,Tryz.ntmps167;go_wp2;go_ret;exact⟨rfl,rfl⟩
theorem catch166_idle (p:Nat) (old:Value) (w:World) (hp:w.heap[p]?=some (.cells #[old] 36 (0,0))) :
  CallsD Tryz.prog 166 #[.pointer (some ⟨p,0,none⟩)] .returning w fun e u' w'=>e=.returned (.tuple #[])∧u'=.returning∧w'=w.setCell ⟨p,0,none⟩ (.int .i64 0):=by
 have hta:=caught167_nil w;have f0:=zA2 hp 0;have c0:=zA1 hp 0;refine kC5 Tryz.func166 rfl fun c₀ cs hu=>?_
 apply kCB;simp[wpOpsS,go_sem,recoverD,hu,Tryz.ntmps166,Exit.thenS];refine hta.mono ?_;rintro e w' ⟨rfl,hw⟩;subst w';simp[go_sem,c0,f0,Oper.upon,Result.andThen]
 cases c₀
 simp_all [bodyPostS,results,Tryz.results166]
end Go.Proofs.YtjaobihcdkjmbaaGreatDoor
end
