/- What can be read as an expression is printed as a text that reads as the same, and is printed as itself: for every argument; a part of its proof. -/
import Derived.Test.YtjaobihcdkjmbaaGreatDoorDa
import Derived.Test.YtjaobihcdkjmbaaGreatDoorDb
import Derived.Test.YtjaobihcdkjmbaaGreatDoorD0
import Derived.Test.YtjaobihcdkjmbaaGreatDoorD7
import Derived.Test.YtjaobihcdkjmbaaGreatDoorD11
import Derived.Test.YtjaobihcdkjmbaaGreatDoorD13
import Derived.Test.YtjaobihcdkjmbaaGreatDoorD16
import Derived.Test.YtjaobihcdkjmbaaGreatDoorD17
import Derived.Test.YtjaobihcdkjmbaaGreatDoorD19
import Derived.Test.YtjaobihcdkjmbaaGreatDoorD21
import Derived.Test.YtjaobihcdkjmbaaGreatDoorD23
set_option linter.unusedVariables false
set_option linter.unusedSimpArgs false
namespace Go.Proofs.YtjaobihcdkjmbaaGreatDoor.PReadTokens
end Go.Proofs.YtjaobihcdkjmbaaGreatDoor.PReadTokens
namespace Go.Proofs.YtjaobihcdkjmbaaGreatDoorW.PrintWords
end Go.Proofs.YtjaobihcdkjmbaaGreatDoorW.PrintWords
set_option maxRecDepth 100000
set_option maxHeartbeats 4000000
section
namespace Go.Proofs.YtjaobihcdkjmbaaGreatDoor
open Go.RowKit Go.Proofs.YtjaobihcdkjmbaaGreatDoorW.PrintWords Go.Proofs.YtjaobihcdkjmbaaGreatDoor.PReadTokens
section
abbrev Tk:=Int×ByteArray
abbrev RI (α:Type):=Except Nat (α×Nat)
def zBM {α β:Type} (r:RI α) (f:α→Nat→RI β):RI β:=match r with | .error j=>.error j | .ok (x,n)=>f x n
section
variable (st:Nat→Tk) (chk:S28→Int)
def skI (n:Nat) (x:ByteArray):Bool:=((st n).1==4||(st n).1==1)&&(st n).2.toList==x.toList
def zDv {α:Type} (cl:ByteArray) (x:α) (n:Nat):RI α:=if skI st n cl=true then .ok (x,n+1) else .error n
def zEt (ex:Nat→RI S31) (x:ByteArray) (n:Nat):RI S31:=if skI st n x=true then ex (n+1) else .error n
def numI (lo hi:Int) (n:Nat):RI Int :=
 match Lib.atoiAll (st n).2.data.toList with
 | .ok v=>if (st n).1=2∧lo≤v∧v≤hi then .ok (v,n+1) else .error n
 | _=>.error n
def unitI (r:S28) (n:Nat):RI S31:=if (st n).1=3 then .ok (⟨0,r,(st n).2,0,[]⟩,n+1) else .ok (⟨0,r,⟨#[]⟩,0,[]⟩,n)
def denI (num:ByteArray) (n:Nat):RI S31 :=
 if (st n).1=2∧(st n).2.toList≠[49]∧chk ⟨num,(st n).2⟩=0 then unitI st ⟨num,(st n).2⟩ (n+1) else .error n
def litI (num:ByteArray) (n:Nat):RI S31:=if skI st n ⟨#[124]⟩=true then denI st chk num (n+1) else unitI st ⟨num,⟨#[49]⟩⟩ n
def listI (ex:Nat→RI S31) (close:ByteArray):Nat→List S31→Nat→RI (List S31)
 | 0,_,n=>.error n
 | k+1,acc,n=>zBM (ex n) fun x m =>
  if (acc++[x]).length<8∧skI st m ⟨#[44]⟩=true then listI ex close k (acc++[x]) (m+1) else zDv st close (acc++[x]) m
def argsI (ex:Nat→RI S31) (nm:ByteArray) (n:Nat):RI S31 :=
 if skI st n ⟨#[41]⟩=true then .ok (⟨14,z28,nm,0,[]⟩,n+1) else zBM (listI st ex ⟨#[41]⟩ 8 [] n) fun xs m=>.ok (⟨14,z28,nm,0,xs⟩,m)
def nameI (ex:Nat→RI S31) (nm:ByteArray) (n:Nat):RI S31 :=
 if skI st n ⟨#[40]⟩=true then argsI st ex nm (n+1) else .ok (⟨1,z28,nm,0,[]⟩,n)
def zFn (ex:Nat→RI S31) (n:Nat):RI S31 :=
 if (st n).1=2 then litI st chk (st n).2 (n+1)
 else if (st n).1=0 then nameI st ex (st n).2 (n+1)
 else if skI st n ⟨#[40]⟩=true then zBM (ex (n+1)) fun x m=>zDv st ⟨#[41]⟩ x m
 else if skI st n ⟨#[91]⟩=true then zBM (listI st ex ⟨#[93]⟩ 8 [] (n+1)) fun xs m=>.ok (⟨8,z28,⟨#[]⟩,0,xs⟩,m)
 else .error n
def zB5 (ex:Nat→RI S31):Nat→S31→Nat→RI S31
 | 0,x,n=>.ok (x,n)
 | k+1,x,n=>if skI st n ⟨#[91]⟩=true then zBM (ex (n+1)) fun y m=>zBM (zDv st ⟨#[93]⟩ y m) fun y m=>zB5 ex k (twoX 9 x y) m else .ok (x,n)
variable (L:Nat)
def zBw (ex:Nat→RI S31) (n:Nat):RI S31:=zBM (zFn st chk ex n) fun x m=>zB5 st ex L x m
def expoI (x:S31) (n:Nat):RI S31 :=
 if skI st n ⟨#[45]⟩=true then zBM (numI st 1 9 (n+1)) fun v m=>.ok (⟨7,z28,⟨#[]⟩,-v,[x]⟩,m) else zBM (numI st 0 9 n) fun v m=>.ok (⟨7,z28,⟨#[]⟩,v,[x]⟩,m)
def zEk (x:S31) (n:Nat):RI S31:=if skI st n ⟨#[94]⟩=true then expoI st x (n+1) else .ok (x,n)
def zCw (ex:Nat→RI S31) (n:Nat):RI S31:=zBM (zBw st chk L ex n) fun x m=>zEk st x m
def zAY (ex:Nat→RI S31):Nat→S31→Nat→RI S31
 | 0,x,n=>.ok (x,n)
 | k+1,x,n =>
  if skI st n ⟨#[42]⟩=true then zBM (zCw st chk L ex (n+1)) fun y m=>zAY ex k (twoX 5 x y) m
  else if skI st n ⟨#[47]⟩=true then zBM (zCw st chk L ex (n+1)) fun y m=>zAY ex k (twoX 6 x y) m
  else .ok (x,n)
def zBf (ex:Nat→RI S31) (n:Nat):RI S31:=zBM (zCw st chk L ex n) fun x m=>zAY st chk L ex L x m
def zBk (ex:Nat→RI S31):Nat→S31→Nat→RI S31
 | 0,x,n=>.ok (x,n)
 | k+1,x,n =>
  if skI st n ⟨#[43]⟩=true then zBM (zBf st chk L ex (n+1)) fun y m=>zBk ex k (twoX 3 x y) m
  else if skI st n ⟨#[45]⟩=true then zBM (zBf st chk L ex (n+1)) fun y m=>zBk ex k (twoX 4 x y) m
  else .ok (x,n)
def zDw (ex:Nat→RI S31) (n:Nat):RI S31 :=
 if skI st n ⟨#[45]⟩=true then zBM (zBf st chk L ex (n+1)) fun x m=>zBk st chk L ex L ⟨2,z28,⟨#[]⟩,0,[x]⟩ m
 else zBM (zBf st chk L ex n) fun x m=>zBk st chk L ex L x m
def loopI4 (ex:Nat→RI S31) (op:Int) (nm:ByteArray) (n:Nat):RI S31 :=
 zBM (numI st 1 99 n) fun v m=>zBM (zEt st ex ⟨#[46]⟩ m) fun x j=>.ok (⟨op,z28,nm,v,[x]⟩,j)
def loopI3 (ex:Nat→RI S31) (op:Int) (nm:ByteArray) (n:Nat):RI S31:=if skI st n ⟨#[60]⟩=true then loopI4 st ex op nm (n+1) else .error n
def loopI (ex:Nat→RI S31) (op:Int) (n:Nat):RI S31:=if (st n).1=0 then loopI3 st ex op (st n).2 (n+1) else .error n
def lettJ (ex:Nat→RI S31) (nm:ByteArray) (n:Nat):RI S31 :=
 zBM (zEt st ex ⟨#[61]⟩ n) fun a m=>zBM (zEt st ex ⟨#[105,110]⟩ m) fun b j=>.ok (⟨13,z28,nm,0,[a,b]⟩,j)
def lettI (ex:Nat→RI S31) (n:Nat):RI S31:=if (st n).1=0 then lettJ st ex (st n).2 (n+1) else .error n
def ifI (ex:Nat→RI S31) (n:Nat):RI S31 :=
 zBM (zDw st chk L ex n) fun a n1=>zBM (zEt st (zDw st chk L ex) ⟨#[60]⟩ n1) fun b n2=>zBM (zEt st ex ⟨#[116,104,101,110]⟩ n2) fun c n3=>zBM (zEt st ex ⟨#[101,108,115,101]⟩ n3) fun d n4 =>
  .ok (⟨12,z28,⟨#[]⟩,0,[a,b,c,d]⟩,n4)
def zG7 (ex:Nat→RI S31) (n:Nat):RI S31 :=
 if skI st n ⟨#[108,101,116]⟩=true then lettI st ex (n+1)
 else if skI st n ⟨#[105,102]⟩=true then ifI st chk L ex (n+1)
 else if skI st n ⟨#[116,97,98]⟩=true then loopI st ex 10 (n+1)
 else if skI st n ⟨#[115,117,109]⟩=true then loopI st ex 11 (n+1)
 else zDw st chk L ex n
def zAW:Nat→Nat→RI S31
 | 0,n=>.error n
 | k+1,n=>zG7 st chk L (zAW k) n
end
def stOf (ts:List S47) (en:Nat) (n:Nat):Tk:=((tokP ts en n).f0,(tokP ts en n).f1)
def mapE {α:Type} (ts:List S47) (en:Nat):RI α→Except Int (α×Nat)
 | .error j=>.error (atP ts en j)
 | .ok p=>.ok p
section
variable {ts:List S47} {en:Nat} {chk:S28→Int}
theorem zAM {α β:Type} (r:RI α) (f:α→Nat→RI β):mapE ts en (zBM r f)=match mapE ts en r with | .error p=>.error p | .ok (x,n)=>mapE ts en (f x n):=by
 cases r with
 | error j=>rfl
 | ok p=>rfl
theorem zAU {α:Type} (c:Prop) [Decidable c] (r s:RI α):mapE ts en (if c then r else s)=if c then mapE ts en r else mapE ts en s:=by split<;>rfl
theorem zFh (n:Nat) (x:ByteArray):skI (stOf ts en) n x=sk ts en n x:=rfl
theorem numI_of (lo hi:Int) (n:Nat):mapE ts en (numI (stOf ts en) lo hi n)=numS ts en lo hi n:=by
 unfold numI numS;show mapE ts en (match Lib.atoiAll (tokP ts en n).f1.data.toList with | .ok v=>if (tokP ts en n).f0=2∧lo≤v∧v≤hi then .ok (v,n+1) else .error n | _=>.error n)=_
 cases Lib.atoiAll (tokP ts en n).f1.data.toList with
 | ok v=>simp only;rw[zAU];rfl
 | _=>rfl
theorem unitI_of (r:S28) (n:Nat):mapE ts en (unitI (stOf ts en) r n)=zFl ts en r n:=by
 unfold unitI zFl;rw[zAU];rfl
theorem litI_of (n:Nat):mapE ts en (litI (stOf ts en) chk (stOf ts en n).2 (n+1))=litS ts en chk n:=by
 unfold litI litS denI;rw[zAU,zAU,unitI_of,unitI_of];rfl
variable {exI:Nat→RI S31} {ex:Nat→PR} (h:∀n,mapE ts en (exI n)=ex n)
theorem zGd {α:Type} (cl:ByteArray) (x:α) (n:Nat):mapE ts en (zDv (stOf ts en) cl x n)=if sk ts en n cl=true then .ok (x,n+1) else .error (atP ts en n):=by
 unfold zDv;rw[zAU];rfl
theorem zFq (cl:ByteArray) (n:Nat) (h:∀n,mapE ts en (exI n)=ex n):mapE ts en (zEt (stOf ts en) exI cl n)=if sk ts en n cl=true then ex (n+1) else .error (atP ts en n):=by
 unfold zEt;rw[zAU,h];rfl
include h in
theorem listI_of (cl:ByteArray) (k:Nat):∀(acc:List S31) (n:Nat),mapE ts en (listI (stOf ts en) exI cl k acc n)=zF4 ts en ex cl k acc n:=by
 induction k with
 | zero=>intro acc n;rfl
 | succ k ih =>
  intro acc n;unfold listI zF4;rw[zAM,h]
  cases ex n with
  | error p=>rfl
  | ok r =>
   obtain⟨x,m⟩:=r;dsimp only;rw[zAU,ih,zGd];rfl
include h in
theorem atomI_of (n:Nat):mapE ts en (zFn (stOf ts en) chk exI n)=atomS ts en chk ex n:=by
 unfold zFn atomS;rw[zAU,litI_of,zAU,zAU,zAU,zAM,zAM,h,listI_of h];by_cases h2:(tokP ts en n).f0=2
 ·rw[kAa (show (stOf ts en n).1=2 from h2),kAa h2]
 rw[kA9 (show ¬(stOf ts en n).1=2 from h2),kA9 h2];by_cases h0:(tokP ts en n).f0=0
 ·rw[kAa (show (stOf ts en n).1=0 from h0),kAa h0];unfold nameI argsI;rw[zAU,zAU,zAM,listI_of h];by_cases h1:sk ts en (n+1) ⟨#[40]⟩=true
  ·rw[kAa (show skI (stOf ts en) (n+1) ⟨#[40]⟩=true from h1),kAa h1];by_cases h3:sk ts en (n+2) ⟨#[41]⟩=true
   ·rw[kAa (show skI (stOf ts en) (n+1+1) ⟨#[41]⟩=true from h3),kAa h3];rfl
   ·rw[kA9 (show ¬skI (stOf ts en) (n+1+1) ⟨#[41]⟩=true from h3),kA9 h3]
    cases zF4 ts en ex ⟨#[41]⟩ 8 [] (n+2) with
    | error p=>rfl
    | ok r=>rfl
  ·rw[kA9 (show ¬skI (stOf ts en) (n+1) ⟨#[40]⟩=true from h1),kA9 h1];rfl
 rw[kA9 (show ¬(stOf ts en n).1=0 from h0),kA9 h0];by_cases h1:sk ts en n ⟨#[40]⟩=true
 ·rw[kAa (show skI (stOf ts en) n ⟨#[40]⟩=true from h1),kAa h1]
  cases ex (n+1) with
  | error p=>rfl
  | ok r=>simp only[zGd]
 rw[kA9 (show ¬skI (stOf ts en) n ⟨#[40]⟩=true from h1),kA9 h1];by_cases h3:sk ts en n ⟨#[91]⟩=true
 ·rw[kAa (show skI (stOf ts en) n ⟨#[91]⟩=true from h3),kAa h3]
  cases zF4 ts en ex ⟨#[93]⟩ 8 [] (n+1) with
  | error p=>rfl
  | ok r=>rfl
 ·rw[kA9 (show ¬skI (stOf ts en) n ⟨#[91]⟩=true from h3),kA9 h3];rfl
include h in
theorem elemLoopI_of (k:Nat):∀(x:S31) (n:Nat),mapE ts en (zB5 (stOf ts en) exI k x n)=zBZ ts en ex k x n:=by
 induction k with
 | zero=>intro x n;rfl
 | succ k ih =>
  intro x n;unfold zB5 zBZ;rw[zAU,zAM,h,zFh];by_cases hs:sk ts en n ⟨#[91]⟩=true
  ·rw[kAa hs,kAa hs]
   cases ex (n+1) with
   | error p=>rfl
   | ok r =>
    obtain⟨y,m⟩:=r;dsimp only;rw[zAM,zGd];by_cases hs:sk ts en m ⟨#[93]⟩=true
    ·rw[kAa hs,kAa hs];exact ih _ _
    ·rw[kA9 hs,kA9 hs]
  ·rw[kA9 hs,kA9 hs];rfl
include h in
theorem elementI_of (n:Nat):mapE ts en (zBw (stOf ts en) chk (ts.length+1) exI n)=zCF ts en chk ex n:=by
 unfold zBw zCF;rw[zAM,atomI_of h];simp only[elemLoopI_of h]
 cases atomS ts en chk ex n with
 | error p=>rfl
 | ok r=>rfl
include h in
theorem powerI_of (n:Nat):mapE ts en (zCw (stOf ts en) chk (ts.length+1) exI n)=zCR ts en chk ex n:=by
 unfold zCw zCR;rw[zAM,elementI_of h]
 cases zCF ts en chk ex n with
 | error p=>rfl
 | ok r =>
  obtain⟨x,m⟩:=r;dsimp only;unfold zEk expoI;rw[zAU,zAU,zAM,zAM,numI_of,numI_of,zFh,zFh];by_cases h1:sk ts en m ⟨#[94]⟩=true
  ·rw[kAa h1,kAa h1];by_cases h2:sk ts en (m+1) ⟨#[45]⟩=true
   ·rw[kAa h2,kAa h2]
    cases numS ts en 1 9 (m+2) with
    | error p=>rfl
    | ok r=>rfl
   ·rw[kA9 h2,kA9 h2]
    cases numS ts en 0 9 (m+1) with
    | error p=>rfl
    | ok r=>rfl
  ·rw[kA9 h1,kA9 h1];rfl
include h in
theorem prodLoopI_of (k:Nat):∀(x:S31) (n:Nat),mapE ts en (zAY (stOf ts en) chk (ts.length+1) exI k x n)=zBA ts en chk ex k x n:=by
 induction k with
 | zero=>intro x n;rfl
 | succ k ih =>
  intro x n;unfold zAY zBA;rw[zAU,zAU,zAM,zAM,powerI_of h,zFh,zFh];simp only[ih];by_cases h1:sk ts en n ⟨#[42]⟩=true
  ·rw[kAa h1,kAa h1]
   cases zCR ts en chk ex (n+1) with
   | error p=>rfl
   | ok r=>rfl
  ·rw[kA9 h1,kA9 h1];by_cases h2:sk ts en n ⟨#[47]⟩=true
   ·rw[kAa h2,kAa h2]
    cases zCR ts en chk ex (n+1) with
    | error p=>rfl
    | ok r=>rfl
   ·rw[kA9 h2,kA9 h2];rfl
include h in
theorem zEj (n:Nat):mapE ts en (zBf (stOf ts en) chk (ts.length+1) exI n)=zAX ts en chk ex n:=by
 unfold zBf zAX;rw[zAM,powerI_of h];simp only[prodLoopI_of h]
 cases zCR ts en chk ex n with
 | error p=>rfl
 | ok r=>rfl
include h in
theorem sumLoopI_of (k:Nat):∀(x:S31) (n:Nat),mapE ts en (zBk (stOf ts en) chk (ts.length+1) exI k x n)=zB2 ts en chk ex k x n:=by
 induction k with
 | zero=>intro x n;rfl
 | succ k ih =>
  intro x n;unfold zBk zB2;rw[zAU,zAU,zAM,zAM,zEj h,zFh,zFh];simp only[ih];by_cases h1:sk ts en n ⟨#[43]⟩=true
  ·rw[kAa h1,kAa h1]
   cases zAX ts en chk ex (n+1) with
   | error p=>rfl
   | ok r=>rfl
  ·rw[kA9 h1,kA9 h1];by_cases h2:sk ts en n ⟨#[45]⟩=true
   ·rw[kAa h2,kAa h2]
    cases zAX ts en chk ex (n+1) with
    | error p=>rfl
    | ok r=>rfl
   ·rw[kA9 h2,kA9 h2];rfl
include h in
theorem sumsI_of (n:Nat):mapE ts en (zDw (stOf ts en) chk (ts.length+1) exI n)=zD2 ts en chk ex n:=by
 unfold zDw zD2;rw[zAU,zAM,zAM,zEj h,zEj h,zFh];simp only[sumLoopI_of h];by_cases h1:sk ts en n ⟨#[45]⟩=true
 ·rw[kAa h1,kAa h1]
  cases zAX ts en chk ex (n+1) with
  | error p=>rfl
  | ok r=>rfl
 ·rw[kA9 h1,kA9 h1]
  cases zAX ts en chk ex n with
  | error p=>rfl
  | ok r=>rfl
include h in
theorem loopI_of (op:Int) (n:Nat):mapE ts en (loopI (stOf ts en) exI op n)=loopS ts en ex op n:=by
 unfold loopI loopI3 loopI4 loopS;rw[zAU,zAU,zAM,numI_of];simp only[zAM,zFq _ _ h];by_cases h0:(tokP ts en n).f0=0
 ·rw[kAa (show (stOf ts en n).1=0 from h0),kAa h0];by_cases h1:sk ts en (n+1) ⟨#[60]⟩=true
  ·rw[kAa (show skI (stOf ts en) (n+1) ⟨#[60]⟩=true from h1),kAa h1]
   cases numS ts en 1 99 (n+1+1) with
   | error p=>rfl
   | ok r =>
    obtain⟨v,m⟩:=r;dsimp only;by_cases h2:sk ts en m ⟨#[46]⟩=true
    ·rw[kAa h2,kAa h2];cases ex (m+1)<;>rfl
    ·rw[kA9 h2,kA9 h2]
  ·rw[kA9 (show ¬skI (stOf ts en) (n+1) ⟨#[60]⟩=true from h1),kA9 h1];rfl
 ·rw[kA9 (show ¬(stOf ts en n).1=0 from h0),kA9 h0];rfl
include h in
theorem lettI_of (n:Nat):mapE ts en (lettI (stOf ts en) exI n)=letS ts en ex n:=by
 unfold lettI lettJ letS;rw[zAU];simp only[zAM,zFq _ _ h];by_cases h0:(tokP ts en n).f0=0
 ·rw[kAa (show (stOf ts en n).1=0 from h0),kAa h0];by_cases h1:sk ts en (n+1) ⟨#[61]⟩=true
  ·rw[kAa h1,kAa h1]
   cases ex (n+1+1) with
   | error p=>rfl
   | ok r =>
    obtain⟨a,m⟩:=r;dsimp only;by_cases h2:sk ts en m ⟨#[105,110]⟩=true
    ·rw[kAa h2,kAa h2];cases ex (m+1)<;>rfl
    ·rw[kA9 h2,kA9 h2]
  ·rw[kA9 h1,kA9 h1]
 ·rw[kA9 (show ¬(stOf ts en n).1=0 from h0),kA9 h0];rfl
include h in
theorem ifI_of (n:Nat):mapE ts en (ifI (stOf ts en) chk (ts.length+1) exI n)=ifS ts en chk ex n:=by
 have hs:=fun n=>sumsI_of (chk:=chk) h n
 unfold ifI ifS;simp only[zAM,zFq _ _ h,zFq _ _ hs,hs]
 cases zD2 ts en chk ex n with
 | error p=>rfl
 | ok r =>
  obtain⟨a,n1⟩:=r;dsimp only;by_cases h1:sk ts en n1 ⟨#[60]⟩=true
  ·rw[kAa h1,kAa h1]
   cases zD2 ts en chk ex (n1+1) with
   | error p=>rfl
   | ok r =>
    obtain⟨b,n2⟩:=r;dsimp only;by_cases h2:sk ts en n2 ⟨#[116,104,101,110]⟩=true
    ·rw[kAa h2,kAa h2]
     cases ex (n2+1) with
     | error p=>rfl
     | ok r =>
      obtain⟨c,n3⟩:=r;dsimp only;by_cases h3:sk ts en n3 ⟨#[101,108,115,101]⟩=true
      ·rw[kAa h3,kAa h3];cases ex (n3+1)<;>rfl
      ·rw[kA9 h3,kA9 h3]
    ·rw[kA9 h2,kA9 h2]
  ·rw[kA9 h1,kA9 h1]
theorem exprI_of (k:Nat):∀n,mapE ts en (zAW (stOf ts en) chk (ts.length+1) k n)=zF9 ts en chk k n:=by
 induction k with
 | zero=>intro n;rfl
 | succ k ih =>
  intro n;unfold zAW zF9 zG7 exprB;rw[zAU,zAU,zAU,zAU,lettI_of ih,ifI_of ih,loopI_of ih,loopI_of ih,sumsI_of ih];rfl
end
end
theorem numS_ok {ts:List S47} {en:Nat} {lo hi v:Int} {now n:Nat} (h:numS ts en lo hi now=.ok (v,n)):n=now+1∧now<ts.length∧lo≤v∧v≤hi:=by
 unfold numS at h;split at h
 ·split at h
  ·rename_i hv h2;injection h with h;injection h with h3 h;subst h3;exact⟨h.symm,zBP h2.1 kD7,h2.2⟩
  ·cases h
 ·cases h
theorem zC3 (W0:World) (R B:Nat) (ts:List S47) (en now:Nat) (lo hi:Int) (w:World) (E:Env W0 R B ts) (h:St W0 R B ts en now w) :
  Calls Tryz.prog 179 #[.pointer (some ⟨R,0,none⟩),.int .i64 lo,.int .i64 hi] w (zDs w R ts en (numS ts en lo hi now)):=by
 cases hn:numS ts en lo hi now with
 | ok r =>
  obtain⟨v,n⟩:=r;obtain⟨rfl,hlt,_,_⟩:=numS_ok hn;unfold numS at hn;split at hn
  ·rename_i v' hv;split at hn
   ·rename_i h2;injection hn with hn;injection hn with hn _;subst hn;exact number_ok W0 R B ts en now lo hi v' w E h hlt (by rw[kAA];exact h2.1) hv h2.2.1 h2.2.2
   ·cases hn
  ·cases hn
 | error p =>
  have:p=(tokP ts en now).f2∧∀v,Lib.atoiAll (tokP ts en now).f1.data.toList=.ok v→¬((tokP ts en now).f0=2∧lo≤v∧v≤hi):=by
   unfold numS at hn;split at hn
   ·rename_i v' hv;split at hn
    ·cases hn
    ·rename_i h2;injection hn with hn;refine⟨hn.symm,fun v hv2=>?_⟩;rw[hv] at hv2;injection hv2 with hv2;subst hv2;exact h2
   ·rename_i hv;injection hn with hn;exact⟨hn.symm,fun v hv2=>absurd hv2 (hv v)⟩
  obtain⟨rfl,hno⟩:=this;exact number_no W0 R B ts en now lo hi w E h hno
theorem Gath.size {W0:World} {R B:Nat} {ts:List S47} {en:Nat} {w:World} {X:Nat} {wr:World} {x:S31} {n:Nat} {v:Value} (E:Env W0 R B ts) (hR:R<w.heap.size) (hX:w.heap.size<X)
  (G:Gath W0 R B ts en w X wr x n v) (k:Int):Gath W0 R B ts en w X (wr.setCell ⟨X,4,none⟩ (.int .i64 k)) ⟨x.f0,x.f1,x.f2,k,x.f4⟩ n v:=by
 have hXR:X≠R:=kD4
 have own:=E.own;have hlow:=G.st.low.size;have hk:=G.took.far G.blk hXR (kAP hX) 4 (.int .i64 k);obtain⟨v5,h1,h2⟩:=G.val.out;obtain rfl:=zCu h1;exact⟨⟨hk.rdr,G.st.low.setCell (p:=⟨X,4,none⟩) kDr _,by rw[kAN];exact G.st.base,G.st.pos⟩,hk,zA8 G.blk 4 _,
  ⟨_,rfl,Kd.R_step h2 (fun j hj _=>kA5 _ _ _ _ hj.2)⟩,(kA5 _ _ _ _ kDr).trans G.res⟩
theorem power_walk (W0:World) (R B:Nat) (ts:List S47) (en:Nat) (chk:S28→Int) (ex:Nat→PR) (m now:Nat) (w:World) (E:Env W0 R B ts) (h:St W0 R B ts en now w) (hm:m≤now)
  (hp:Pars W0 R B ts en 217 (zCF ts en chk ex) m) :
  Calls Tryz.prog 180 #[.pointer (some ⟨R,0,none⟩)] w (zAk w R ts en now (zCR ts en chk ex now)):=by
 have hp0:=hp now (w.alloc zO) hm (h.below ((kA3 _ _).alloc (kA2 _) _));unfold zCR;have few:=E.few;have hRw:=h.rdr.lt;have hne0:=kAs hRw
 cases hc:zCF ts en chk ex now with
 | error p =>
  rw[hc] at hp0;unfold zAk zAm at hp0;clear hc hp h;go_enter Tryz.func180,Tryz.ntmps180;go_wp2_with fail;refine hp0.mono ?_;rintro e w1 ⟨rfl,hg⟩;go_wp2;exact⟨rfl,rfl,kA7 (kAE w zO _) hg⟩
 | ok r =>
  obtain⟨x,n⟩:=r;rw[hc] at hp0;unfold zAk at hp0;have H:=kA1 h;have h0:St W0 R B ts en now (w.alloc zO):=h.below ((kA3 _ _).alloc (kA2 _) _);clear hp h hc;dsimp only;have start:∀(w1:World) (v5:Value),Ex w1 (From (w.alloc zO).heap.size) x (exV x v5)→Took (w.alloc zO) R ts n en w1→n≤ts.length→w.heap.size<w1.heap.size ∧
    Gath W0 R B ts en w w1.heap.size (w1.alloc (.cells #[.int .i64 x.f0,.string x.f1.f0,.string x.f1.f1,.string x.f2,.int .i64 x.f3,v5] 31)) x n v5:=fun w1 v5 hx hk hn2=>by
   have hz:=hk.blk (zA4 w zO) hne0;have hXw:w.heap.size<w1.heap.size:=zA5 hz;exact⟨hXw,(h0.took E hk hn2).below ((kA3 _ _).alloc (kA2 _) _),hk.start.alloc _,zA4 _ _,(hx.old (fun k h1 h2=>⟨by simp[From] at h1;omega,kB8 h2⟩)).below ((kA3 _ _).alloc (kA2 _) _),
    (kA4 _ _ _ (zA5 hz)).trans hz⟩
  have Start:=kA1 start;clear start h0
  cases hs:sk ts en n ⟨#[94]⟩ with
  | false =>
   rw[kA9 kD7];go_enter Tryz.func180,Tryz.ntmps180;go_wp2_with fail;refine hp0.mono ?_;rintro e w1 ⟨hn1,hn2,v,rfl,hx,hk⟩;obtain⟨v5,A5,n5,c5,rfl,rfl,_,_⟩:=hx.cells;obtain⟨hXw,G⟩:=Start.out w1 _ hx hk hn2;have hsk:=zAT R ts n en ⟨#[94]⟩ _ G.st.rdr hn2 hs;unfold exV;go_wp2_with fail;refine hsk.mono ?_;rintro e w2 ⟨rfl,hk2⟩;have G2:=G.go E hRw hXw hk2 hn2;obtain⟨⟨p0,p1,p2,p3,p4,p5⟩,-,xl⟩:=zA6 G2.blk;obtain⟨⟨q0,q1,q2,q3,q4,q5⟩,⟨f0,f1,f2,f3,f4,f5⟩,xl2⟩:=zA6 G2.res;go_wp2;refine kAi (zAg Tryz.results180 _ _ w.heap.size 31 _ (0,0) _ rfl (fin6 _ _ _ _ _ _ G2.res) Tryz.underlying31 rfl zB6) rfl ⟨hn1,hn2,_,rfl,?_,?_⟩
   ·exact (G2.val.set6 (fun k hk=>kAs hk.1) _ _ _ _ _ _).mono (fun k hk=>kAP hk.1)
   ·exact G2.took.set6 G2.res hne0 (kA2 _) _ _ _ _ _ _
  | true =>
   rw[kAa rfl];have hlt:=zAv hs
   cases hs2:sk ts en (n+1) ⟨#[45]⟩ with
   | true =>
    rw[kAa rfl];have hlt1:=zAv hs2
    cases hnum:numS ts en 1 9 (n+1+1) with
    | error p =>
     dsimp only;go_enter Tryz.func180,Tryz.ntmps180;go_wp2_with fail;refine hp0.mono ?_;rintro e w1 ⟨hn1,hn2,v,rfl,hx,hk⟩;obtain⟨v5,A5,n5,c5,rfl,rfl,_,_⟩:=hx.cells;obtain⟨hXw,G⟩:=Start.out w1 _ hx hk hn2;have hsk:=zAE R ts n en ⟨#[94]⟩ _ G.st.rdr few hs;unfold exV;go_wp2_with fail;refine hsk.mono ?_;rintro e w2 ⟨rfl,hk2⟩;have G2:=G.go E hRw hXw hk2 hlt;obtain⟨⟨p0,p1,p2,p3,p4,p5⟩,⟨f0,f1,f2,f3,f4,f5⟩,xl⟩:=zA6 G2.blk;have hone:=G2.val.one ⟨kD4,kD4⟩ ⟨7,z28,⟨#[]⟩,0,[x]⟩ rfl;have G3:=(G2.below ((kA3 _ w2).alloc (kA2 _) (.cells #[.int .i64 x.f0,.string x.f1.f0,.string x.f1.f1,.string x.f2,.int .i64 x.f3,.slice A5 n5 c5] 31))).store E hRw hXw hone;have hsk3:=zAE R ts (n+1) en ⟨#[45]⟩ _ G3.st.rdr few hs2;simp only[set6,kBa,kAN,xl,z28] at G3 hsk3;clear p0 p1 p2 p3 p4 p5 f0 f1 f2 f3 f4 f5;obtain⟨⟨p0,p1,p2,p3,p4,p5⟩,⟨f0,f1,f2,f3,f4,f5⟩,-⟩:=zA6 G2.blk;go_wp2_with fail;refine hsk3.mono ?_;rintro e w3 ⟨rfl,hk3⟩;have G4:=G3.go E hRw hXw hk3 hlt1;have hnn:=zC3 W0 R B ts en (n+1+1) 1 9 w3 E G4.st;rw[hnum] at hnn;unfold zDs zAm at hnn;clear hsk3 hsk hone G3;go_wp2_with fail;refine hnn.mono ?_;rintro e w4 ⟨rfl,hg4⟩;go_wp2;exact⟨rfl,rfl,kA7 G4.took.grown hg4⟩
    | ok r =>
     obtain⟨k,n2⟩:=r;obtain⟨rfl,hlt2,hlo,hhi⟩:=numS_ok hnum;dsimp only;go_enter Tryz.func180,Tryz.ntmps180;go_wp2_with fail;refine hp0.mono ?_;rintro e w1 ⟨hn1,hn2,v,rfl,hx,hk⟩;obtain⟨v5,A5,n5,c5,rfl,rfl,_,_⟩:=hx.cells;obtain⟨hXw,G⟩:=Start.out w1 _ hx hk hn2;have hsk:=zAE R ts n en ⟨#[94]⟩ _ G.st.rdr few hs;unfold exV;go_wp2_with fail;refine hsk.mono ?_;rintro e w2 ⟨rfl,hk2⟩;have G2:=G.go E hRw hXw hk2 hlt;obtain⟨⟨p0,p1,p2,p3,p4,p5⟩,⟨f0,f1,f2,f3,f4,f5⟩,xl⟩:=zA6 G2.blk;have hone:=G2.val.one ⟨kD4,kD4⟩ ⟨7,z28,⟨#[]⟩,0,[x]⟩ rfl;have G3:=(G2.below ((kA3 _ w2).alloc (kA2 _) (.cells #[.int .i64 x.f0,.string x.f1.f0,.string x.f1.f1,.string x.f2,.int .i64 x.f3,.slice A5 n5 c5] 31))).store E hRw hXw hone;have hsk3:=zAE R ts (n+1) en ⟨#[45]⟩ _ G3.st.rdr few hs2;simp only[set6,kBa,kAN,xl,z28] at G3 hsk3;clear p0 p1 p2 p3 p4 p5 f0 f1 f2 f3 f4 f5;obtain⟨⟨p0,p1,p2,p3,p4,p5⟩,⟨f0,f1,f2,f3,f4,f5⟩,-⟩:=zA6 G2.blk;go_wp2_with fail;refine hsk3.mono ?_;rintro e w3 ⟨rfl,hk3⟩;have G4:=G3.go E hRw hXw hk3 hlt1;have hnn:=zC3 W0 R B ts en (n+1+1) 1 9 w3 E G4.st;rw[hnum] at hnn;unfold zDs at hnn;clear hsk3 hsk hone G3;go_wp2_with fail;refine hnn.mono ?_;rintro e w4 ⟨rfl,hk4⟩;have G5:=G4.go E hRw hXw hk4 hlt2;have G6:=G5.size E hRw hXw (-k);obtain⟨⟨q0,q1,q2,q3,q4,q5⟩,⟨y0,y1,y2,y3,y4,y5⟩,xl5⟩:=zA6 G5.blk;obtain⟨⟨s0,s1,s2,s3,s4,s5⟩,⟨t0,t1,t2,t3,t4,t5⟩,xl6⟩:=zA6 G6.res;obtain⟨⟨i0,i1,i2,i3,i4,i5⟩,-,xl7⟩:=zA6 G6.blk;go_wp2;refine kAi (zAg Tryz.results180 _ _ w.heap.size 31 _ (0,0) _ rfl (fin6 _ _ _ _ _ _ G6.res) Tryz.underlying31 rfl zB6) rfl ⟨kD4,hlt2,_,rfl,?_,?_⟩
     ·exact (G6.val.set6 (fun k hk=>kAs hk.1) _ _ _ _ _ _).mono (fun k hk=>kAP hk.1)
     ·exact G6.took.set6 G6.res hne0 (kA2 _) _ _ _ _ _ _
   | false =>
    rw[kA9 kD7]
    cases hnum:numS ts en 0 9 (n+1) with
    | error p =>
     dsimp only;go_enter Tryz.func180,Tryz.ntmps180;go_wp2_with fail;refine hp0.mono ?_;rintro e w1 ⟨hn1,hn2,v,rfl,hx,hk⟩;obtain⟨v5,A5,n5,c5,rfl,rfl,_,_⟩:=hx.cells;obtain⟨hXw,G⟩:=Start.out w1 _ hx hk hn2;have hsk:=zAE R ts n en ⟨#[94]⟩ _ G.st.rdr few hs;unfold exV;go_wp2_with fail;refine hsk.mono ?_;rintro e w2 ⟨rfl,hk2⟩;have G2:=G.go E hRw hXw hk2 hlt;obtain⟨⟨p0,p1,p2,p3,p4,p5⟩,⟨f0,f1,f2,f3,f4,f5⟩,xl⟩:=zA6 G2.blk;have hone:=G2.val.one ⟨kD4,kD4⟩ ⟨7,z28,⟨#[]⟩,0,[x]⟩ rfl;have G3:=(G2.below ((kA3 _ w2).alloc (kA2 _) (.cells #[.int .i64 x.f0,.string x.f1.f0,.string x.f1.f1,.string x.f2,.int .i64 x.f3,.slice A5 n5 c5] 31))).store E hRw hXw hone;have hsk3:=zAT R ts (n+1) en ⟨#[45]⟩ _ G3.st.rdr hlt hs2;simp only[set6,kBa,kAN,xl,z28] at G3 hsk3;clear p0 p1 p2 p3 p4 p5 f0 f1 f2 f3 f4 f5;obtain⟨⟨p0,p1,p2,p3,p4,p5⟩,⟨f0,f1,f2,f3,f4,f5⟩,-⟩:=zA6 G2.blk;go_wp2_with fail;refine hsk3.mono ?_;rintro e w3 ⟨rfl,hk3⟩;have G4:=G3.go E hRw hXw hk3 hlt;have hnn:=zC3 W0 R B ts en (n+1) 0 9 w3 E G4.st;rw[hnum] at hnn;unfold zDs zAm at hnn;clear hsk3 hsk hone G3;go_wp2_with fail;refine hnn.mono ?_;rintro e w4 ⟨rfl,hg4⟩;go_wp2;exact⟨rfl,rfl,kA7 G4.took.grown hg4⟩
    | ok r =>
     obtain⟨k,n2⟩:=r;obtain⟨rfl,hlt2,hlo,hhi⟩:=numS_ok hnum;dsimp only;go_enter Tryz.func180,Tryz.ntmps180;go_wp2_with fail;refine hp0.mono ?_;rintro e w1 ⟨hn1,hn2,v,rfl,hx,hk⟩;obtain⟨v5,A5,n5,c5,rfl,rfl,_,_⟩:=hx.cells;obtain⟨hXw,G⟩:=Start.out w1 _ hx hk hn2;have hsk:=zAE R ts n en ⟨#[94]⟩ _ G.st.rdr few hs;unfold exV;go_wp2_with fail;refine hsk.mono ?_;rintro e w2 ⟨rfl,hk2⟩;have G2:=G.go E hRw hXw hk2 hlt;obtain⟨⟨p0,p1,p2,p3,p4,p5⟩,⟨f0,f1,f2,f3,f4,f5⟩,xl⟩:=zA6 G2.blk;have hone:=G2.val.one ⟨kD4,kD4⟩ ⟨7,z28,⟨#[]⟩,0,[x]⟩ rfl;have G3:=(G2.below ((kA3 _ w2).alloc (kA2 _) (.cells #[.int .i64 x.f0,.string x.f1.f0,.string x.f1.f1,.string x.f2,.int .i64 x.f3,.slice A5 n5 c5] 31))).store E hRw hXw hone;have hsk3:=zAT R ts (n+1) en ⟨#[45]⟩ _ G3.st.rdr hlt hs2;simp only[set6,kBa,kAN,xl,z28] at G3 hsk3;clear p0 p1 p2 p3 p4 p5 f0 f1 f2 f3 f4 f5;obtain⟨⟨p0,p1,p2,p3,p4,p5⟩,⟨f0,f1,f2,f3,f4,f5⟩,-⟩:=zA6 G2.blk;go_wp2_with fail;refine hsk3.mono ?_;rintro e w3 ⟨rfl,hk3⟩;have G4:=G3.go E hRw hXw hk3 hlt;have hnn:=zC3 W0 R B ts en (n+1) 0 9 w3 E G4.st;rw[hnum] at hnn;unfold zDs at hnn;clear hsk3 hsk hone G3;go_wp2_with fail;refine hnn.mono ?_;rintro e w4 ⟨rfl,hk4⟩;have G5:=G4.go E hRw hXw hk4 hlt2;have G6:=G5.size E hRw hXw k;obtain⟨⟨q0,q1,q2,q3,q4,q5⟩,⟨y0,y1,y2,y3,y4,y5⟩,xl5⟩:=zA6 G5.blk;obtain⟨⟨s0,s1,s2,s3,s4,s5⟩,⟨t0,t1,t2,t3,t4,t5⟩,xl6⟩:=zA6 G6.res;obtain⟨⟨i0,i1,i2,i3,i4,i5⟩,-,xl7⟩:=zA6 G6.blk;go_wp2;refine kAi (zAg Tryz.results180 _ _ w.heap.size 31 _ (0,0) _ rfl (fin6 _ _ _ _ _ _ G6.res) Tryz.underlying31 rfl zB6) rfl ⟨kD4,hlt2,_,rfl,?_,?_⟩
     ·exact (G6.val.set6 (fun k hk=>kAs hk.1) _ _ _ _ _ _).mono (fun k hk=>kAP hk.1)
     ·exact G6.took.set6 G6.res hne0 (kA2 _) _ _ _ _ _ _
theorem Mid.setX {W0:World} {R B:Nat} {ts:List S47} {en:Nat} {w wr:World} {n:Nat} {X:Nat} {cs:Array Value} (E:Env W0 R B ts) (hR:R<w.heap.size) (G:Mid W0 R B ts en w wr n) (hXR:X≠R) (hX:w.heap.size<X) (hb:wr.heap[X]?=some (.cells cs 31 (0,0))) (i:Nat) (u:Value) :
  Mid W0 R B ts en w (wr.setCell ⟨X,i,none⟩ u) n:=by
 have hlow:=G.st.low.size;have hk:=G.took.far hb hXR (kAP hX) i u;exact⟨⟨hk.rdr,G.st.low.setCell (p:=⟨X,i,none⟩) (by have:=E.own;simp only;omega) _,by rw[kAN];exact G.st.base,G.st.pos⟩,hk,(kA5 _ _ _ _ kDr).trans G.res⟩
theorem Ex.pair {W:World} {S:Nat→Prop} {a b:S31} {va vb:Value} (ha:Ex W S a (exV a va)) (hb:Ex W S b (exV b vb)) (hS:S W.heap.size) (y:S31) (hy:y.f4=[a,b]) :
  Ex (W.alloc (.cells #[.int .i64 a.f0,.string a.f1.f0,.string a.f1.f1,.string a.f2,.int .i64 a.f3,va,.int .i64 b.f0,.string b.f1.f0,.string b.f1.f1,.string b.f2,.int .i64 b.f3,vb] 31)) S y (exV y (.slice (some ⟨W.heap.size,0,none⟩) 2 2)):=by
 obtain⟨v,_,_,_,h1,_,_,hM⟩:=ha.cells;obtain rfl:=zCu h1;obtain⟨v,_,_,_,h2,_,_,hM2⟩:=hb.cells;obtain rfl:=zCu h2;refine⟨_,rfl,?_⟩;rw[hy];exact lit_row (xs:=[a,b]) (((Reps.none _ _).snoc hM rfl).snoc hM2 rfl) hS kD6
theorem loop_walk (W0:World) (R B:Nat) (ts:List S47) (en:Nat) (ex:Nat→PR) (op:Int) (m now:Nat) (w:World) (E:Env W0 R B ts) (h:St W0 R B ts en now w) (hm:m≤now) (hex:Pars W0 R B ts en 134 ex m) :
  Calls Tryz.prog 159 #[.pointer (some ⟨R,0,none⟩),.int .i64 op] w (zAk w R ts en now (loopS ts en ex op now)):=by
 have few:=E.few;have hRw:=h.rdr.lt;have M0:=Mid.start h;have hnow:=h.pos;unfold loopS;by_cases h0:(tokP ts en now).f0=0
 ·rw[kAa h0];have hlt:=zBP h0 kD7;have hk:=zCC R ts now en 0 (w.alloc zO) M0.st.rdr hlt few (by rw[kAA];exact h0);clear h0;generalize (tokP ts en now).f1=nm at *;have HX:=kA1 hex;clear hex h
  cases h1:sk ts en (now+1) ⟨#[60]⟩ with
  | false =>
   rw[kA9 kD7];have ht:=fun w' hr=>zCt R ts (now+1) en ⟨#[60]⟩ w' hr hlt h1
   unfold zAm at ht;have HT:=kA1 ht;clear ht h1;unfold atP;go_enter Tryz.func159,Tryz.ntmps159;go_wp2_with fail;refine hk.mono ?_;rintro e w1 ⟨rfl,hk1⟩;have M1:=(M0.go E hRw hk1 hlt).alloc (.cells #[.int .i64 op,.string ⟨#[]⟩,.string ⟨#[]⟩,.string nm,.int .i64 0,.slice none 0 0] 31);have ht:=HT.out _ M1.st.rdr;go_wp2_with fail;refine ht.mono ?_;rintro e w2 ⟨rfl,hb2⟩;go_wp2;exact⟨rfl,rfl,kAk M1.took.grown hb2⟩
  | true =>
   rw[kAa rfl];have hlt1:=zAv h1;have HT:=kA1 (fun w' hr=>zBW R ts (now+1) en ⟨#[60]⟩ w' hr few h1);clear h1
   cases hnum:numS ts en 1 99 (now+2) with
   | error p =>
    dsimp only;go_enter Tryz.func159,Tryz.ntmps159;go_wp2_with fail;refine hk.mono ?_;rintro e w1 ⟨rfl,hk1⟩;have M1:=(M0.go E hRw hk1 hlt).alloc (.cells #[.int .i64 op,.string ⟨#[]⟩,.string ⟨#[]⟩,.string nm,.int .i64 0,.slice none 0 0] 31);have ht:=HT.out _ M1.st.rdr;go_wp2_with fail;refine ht.mono ?_;rintro e w2 ⟨rfl,hk2⟩;have M2:=M1.go E hRw hk2 hlt1;have hnn:=zC3 W0 R B ts en (now+1+1) 1 99 w2 E M2.st;rw[show now+1+1=now+2 from rfl,hnum] at hnn;unfold zDs zAm at hnn;go_wp2_with fail;refine hnn.mono ?_;rintro e w3 ⟨rfl,hg3⟩;go_wp2;exact⟨rfl,rfl,kA7 M2.took.grown hg3⟩
   | ok r =>
    obtain⟨v,n3⟩:=r;obtain⟨rfl,hlt2,hlo,hhi⟩:=numS_ok hnum;dsimp only
    cases h2:sk ts en (now+2+1) ⟨#[46]⟩ with
    | false =>
     rw[kA9 kD7];have ht:=fun w' hr=>zCt R ts (now+2+1) en ⟨#[46]⟩ w' hr hlt2 h2
     unfold zAm at ht;have HT2:=kA1 ht;clear ht h2;unfold atP;go_enter Tryz.func159,Tryz.ntmps159;go_wp2_with fail;refine hk.mono ?_;rintro e w1 ⟨rfl,hk1⟩;have hXR:w1.heap.size≠R:=kAs hk1.rdr.lt;have M1':=M0.go E hRw hk1 hlt;have hXw:=M1'.lt;have M1:=M1'.alloc (.cells #[.int .i64 op,.string ⟨#[]⟩,.string ⟨#[]⟩,.string nm,.int .i64 0,.slice none 0 0] 31);have x1:=zA4 w1 (.cells #[.int .i64 op,.string ⟨#[]⟩,.string ⟨#[]⟩,.string nm,.int .i64 0,.slice none 0 0] 31);have ht:=HT.out _ M1.st.rdr;go_wp2_with fail;generalize w1.heap.size=X at *;refine ht.mono ?_;rintro e w2 ⟨rfl,hk2⟩;have M2:=M1.go E hRw hk2 hlt1;have x2:=hk2.blk x1 hXR;have hnn:=zC3 W0 R B ts en (now+1+1) 1 99 w2 E M2.st;rw[show now+1+1=now+2 from rfl,hnum] at hnn;unfold zDs at hnn;clear ht hk2 M1 M1' x1 hk1;go_wp2_with fail;refine hnn.mono ?_;rintro e w3 ⟨rfl,hk3⟩;have M3:=M2.go E hRw hk3 hlt2;have x3:=hk3.blk x2 hXR;have M4:=M3.setX E hRw hXR hXw x3 4 (.int .i64 v);have x4:=zA8 x3 4 (.int .i64 v);obtain⟨⟨c0,c1,c2,c3,c4,c5⟩,⟨y0,y1,y2,y3,y4,y5⟩,xl⟩:=zA6 x3;have ht2:=HT2.out _ M4.st.rdr;clear hnn hk3 M2 M3 x2;go_wp2_with fail;refine ht2.mono ?_;rintro e w5 ⟨rfl,hb5⟩;go_wp2;exact⟨rfl,rfl,kAk M4.took.grown hb5⟩
    | true =>
     rw[kAa rfl];have hlt3:=zAv h2;have HT2:=kA1 (fun w' hr=>zBW R ts (now+2+1) en ⟨#[46]⟩ w' hr few h2);clear h2;have hx:=HX.out (now+2+1+1)
     cases hc:ex (now+2+1+1) with
     | error p =>
      rw[hc] at hx;unfold zAk zAm at hx;have HX2:=kA1 (fun w' hs=>hx w' kD4 hs);clear hx hc HX;dsimp only;go_enter Tryz.func159,Tryz.ntmps159;go_wp2_with fail;refine hk.mono ?_;rintro e w1 ⟨rfl,hk1⟩;have hXR:w1.heap.size≠R:=kAs hk1.rdr.lt;have M1':=M0.go E hRw hk1 hlt;have hXw:=M1'.lt;have M1:=M1'.alloc (.cells #[.int .i64 op,.string ⟨#[]⟩,.string ⟨#[]⟩,.string nm,.int .i64 0,.slice none 0 0] 31);have x1:=zA4 w1 (.cells #[.int .i64 op,.string ⟨#[]⟩,.string ⟨#[]⟩,.string nm,.int .i64 0,.slice none 0 0] 31);have ht:=HT.out _ M1.st.rdr;go_wp2_with fail;generalize w1.heap.size=X at *;refine ht.mono ?_;rintro e w2 ⟨rfl,hk2⟩;have M2:=M1.go E hRw hk2 hlt1;have x2:=hk2.blk x1 hXR;have hnn:=zC3 W0 R B ts en (now+1+1) 1 99 w2 E M2.st;rw[show now+1+1=now+2 from rfl,hnum] at hnn;unfold zDs at hnn;clear ht hk2 M1 M1' x1 hk1;go_wp2_with fail;refine hnn.mono ?_;rintro e w3 ⟨rfl,hk3⟩;have M3:=M2.go E hRw hk3 hlt2;have x3:=hk3.blk x2 hXR;have M4:=M3.setX E hRw hXR hXw x3 4 (.int .i64 v);have x4:=zA8 x3 4 (.int .i64 v);obtain⟨⟨c0,c1,c2,c3,c4,c5⟩,⟨y0,y1,y2,y3,y4,y5⟩,xl⟩:=zA6 x3;have ht2:=HT2.out _ M4.st.rdr;clear hnn hk3 M2 M3 x2;go_wp2_with fail;refine ht2.mono ?_;rintro e w5 ⟨rfl,hk5⟩;have M5:=M4.go E hRw hk5 hlt3;have hx5:=HX2.out _ M5.st;obtain⟨a1,f1,a3,a4,lt⟩:=M5.st.rdr.cells;clear c0 c1 c2 c3 c4 c5 y0 y1 y2 y3 y4 y5;go_wp2_with (go_at_call 134;refine hx5.mono ?_;rintro e w6 ⟨rfl,hg⟩);exact⟨rfl,rfl,kA7 M5.took.grown hg⟩
     | ok r =>
      obtain⟨x,n⟩:=r;rw[hc] at hx;unfold zAk at hx;have HX2:=kA1 (fun w' hs=>hx w' kD4 hs);clear hx hc HX;dsimp only;go_enter Tryz.func159,Tryz.ntmps159;go_wp2_with fail;refine hk.mono ?_;rintro e w1 ⟨rfl,hk1⟩;have hXR:w1.heap.size≠R:=kAs hk1.rdr.lt;have M1':=M0.go E hRw hk1 hlt;have hXw:=M1'.lt;have M1:=M1'.alloc (.cells #[.int .i64 op,.string ⟨#[]⟩,.string ⟨#[]⟩,.string nm,.int .i64 0,.slice none 0 0] 31);have x1:=zA4 w1 (.cells #[.int .i64 op,.string ⟨#[]⟩,.string ⟨#[]⟩,.string nm,.int .i64 0,.slice none 0 0] 31);have ht:=HT.out _ M1.st.rdr;go_wp2_with fail;generalize w1.heap.size=X at *;refine ht.mono ?_;rintro e w2 ⟨rfl,hk2⟩;have M2:=M1.go E hRw hk2 hlt1;have x2:=hk2.blk x1 hXR;have hnn:=zC3 W0 R B ts en (now+1+1) 1 99 w2 E M2.st;rw[show now+1+1=now+2 from rfl,hnum] at hnn;unfold zDs at hnn;clear ht hk2 M1 M1' x1 hk1;go_wp2_with fail;refine hnn.mono ?_;rintro e w3 ⟨rfl,hk3⟩;have M3:=M2.go E hRw hk3 hlt2;have x3:=hk3.blk x2 hXR;have M4:=M3.setX E hRw hXR hXw x3 4 (.int .i64 v);have x4:=zA8 x3 4 (.int .i64 v);obtain⟨⟨c0,c1,c2,c3,c4,c5⟩,⟨y0,y1,y2,y3,y4,y5⟩,xl⟩:=zA6 x3;have ht2:=HT2.out _ M4.st.rdr;clear hnn hk3 M2 M3 x2;go_wp2_with fail;refine ht2.mono ?_;rintro e w5 ⟨rfl,hk5⟩;have M5:=M4.go E hRw hk5 hlt3;have x5:=hk5.blk x4 hXR;have hx5:=HX2.out _ M5.st;obtain⟨a1,f1,a3,a4,lt⟩:=M5.st.rdr.cells;clear c0 c1 c2 c3 c4 c5 y0 y1 y2 y3 y4 y5;have hX5:=M5.lt;have hXl5:=zA5 x5;go_wp2_with fail;refine hx5.mono ?_;rintro e w6 ⟨hn1,hn2,vv,rfl,hv,hk6⟩;obtain⟨v5,A5,n5,c5,rfl,rfl,_,hMv⟩:=hv.cells;have M6:=M5.go E hRw hk6 hn2;have x6:=hk6.blk x5 hXR;obtain⟨⟨c0,c1,c2,c3,c4,c5'⟩,⟨y0,y1,y2,y3,y4,y5⟩,xl6⟩:=zA6 x6;unfold exV;clear hx5 hk5 M4 x4 x3 x5;obtain⟨⟨q0,q1,q2,q3,q4,q5⟩,⟨z0,z1,z2,z3,z4,z5⟩,xl7⟩:=zA6 M6.res;have hv6:=hv.mono (S':=fun k=>w.heap.size<k∧k≠X) (fun k hk=>by simp only[From] at hk;exact⟨kD4,kD4⟩);have hone:=hv6.one ⟨xl7,kAs xl6⟩ ⟨op,z28,nm,v,[x]⟩ rfl;have M8:=(M6.alloc (.cells #[.int .i64 x.f0,.string x.f1.f0,.string x.f1.f1,.string x.f2,.int .i64 x.f3,.slice A5 n5 c5] 31)).setX E hRw hXR hXw ((kA4 _ _ _ xl6).trans x6) 5 (.slice (some ⟨w6.heap.size,0,none⟩) 1 1);have hx8:=(hone.step (w1:=(w6.alloc (.cells #[.int .i64 x.f0,.string x.f1.f0,.string x.f1.f1,.string x.f2,.int .i64 x.f3,.slice A5 n5 c5] 31)).setCell ⟨X,5,none⟩ (.slice (some ⟨w6.heap.size,0,none⟩) 1 1)) (fun k hk _=>kA5 _ _ _ _ hk.2)).mono (S':=fun k=>w.heap.size<k) (fun k hk=>hk.1);have hfin:=fin6 (.int .i64 op) (.string ⟨#[]⟩) (.string ⟨#[]⟩) (.string nm) (.int .i64 v) (.slice (some ⟨w6.heap.size,0,none⟩) 1 1) M8.res;have hdone:=M8.done hRw hx8 (show now<n by omega) (.int .i64 op) (.string ⟨#[]⟩) (.string ⟨#[]⟩) (.string nm) (.int .i64 v) (.slice (some ⟨w6.heap.size,0,none⟩) 1 1);simp only[set6,kBa,kAN,xl6,xl7] at hfin hdone;have HF:=kA1 hfin;have HD:=kA1 hdone;clear hfin hdone hx8 M8 hone hv6 hv hMv;go_wp2;exact kAi (zAg Tryz.results159 _ _ w.heap.size 31 _ (0,0) _ rfl HF.out Tryz.underlying31 rfl zB6) rfl HD.out
 ·rw[kA9 h0];have hk:=kind_no R ts now en 0 (w.alloc zO) M0.st.rdr hnow (by rw[kAd];exact h0);unfold zAm at hk;unfold atP;generalize (tokP ts en now).f2=p at *;clear h h0 hex;go_enter Tryz.func159,Tryz.ntmps159;go_wp2_with fail;refine hk.mono ?_;rintro e w1 ⟨rfl,hb1⟩;go_wp2;exact⟨rfl,rfl,kAk (kAE w zO _) hb1⟩
end Go.Proofs.YtjaobihcdkjmbaaGreatDoor
end
