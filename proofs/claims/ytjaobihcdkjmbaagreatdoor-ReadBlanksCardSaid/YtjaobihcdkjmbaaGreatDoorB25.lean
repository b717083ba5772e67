/- The law ReadBlanks answers true for every argument; a part of its proof. -/
import Derived.Test.YtjaobihcdkjmbaaGreatDoorBa
import Derived.Test.YtjaobihcdkjmbaaGreatDoorBb
import Derived.Test.YtjaobihcdkjmbaaGreatDoorB0
import Derived.Test.YtjaobihcdkjmbaaGreatDoorB7
import Derived.Test.YtjaobihcdkjmbaaGreatDoorB10
import Derived.Test.YtjaobihcdkjmbaaGreatDoorB11
import Derived.Test.YtjaobihcdkjmbaaGreatDoorB19
import Derived.Test.YtjaobihcdkjmbaaGreatDoorB24
set_option linter.unusedVariables false
set_option linter.unusedSimpArgs false
namespace Go.Proofs.YtjaobihcdkjmbaaGreatDoor.PReadTokens
end Go.Proofs.YtjaobihcdkjmbaaGreatDoor.PReadTokens
namespace Go.Proofs.YtjaobihcdkjmbaaGreatDoorW.PrintWords
end Go.Proofs.YtjaobihcdkjmbaaGreatDoorW.PrintWords
set_option maxRecDepth 100000
set_option maxHeartbeats 2000000
section
namespace Go.Proofs.YtjaobihcdkjmbaaGreatDoor
open Go.RowKit Go.Proofs.YtjaobihcdkjmbaaGreatDoorW.PrintWords Go.Proofs.YtjaobihcdkjmbaaGreatDoor.PReadTokens
section
abbrev Tk:=Int×ByteArray
abbrev RI (α:Type):=Except Nat (α×Nat)
def zBL {α β:Type} (r:RI α) (f:α→Nat→RI β):RI β:=match r with | .error j=>.error j | .ok (x,n)=>f x n
section
variable (st:Nat→Tk) (chk:S28→Int)
def skI (n:Nat) (x:ByteArray):Bool:=((st n).1==4||(st n).1==1)&&(st n).2.toList==x.toList
def zE4 {α:Type} (cl:ByteArray) (x:α) (n:Nat):RI α:=if skI st n cl=true then .ok (x,n+1) else .error n
def zFc (ex:Nat→RI S31) (x:ByteArray) (n:Nat):RI S31:=if skI st n x=true then ex (n+1) else .error n
def numI (lo hi:Int) (n:Nat):RI Int :=
 match Lib.atoiAll (st n).2.data.toList with
 | .ok v=>if (st n).1=2∧lo≤v∧v≤hi then .ok (v,n+1) else .error n
 | _=>.error n
def unitI (r:S28) (n:Nat):RI S31:=if (st n).1=3 then .ok (⟨0,r,(st n).2,0,[]⟩,n+1) else .ok (⟨0,r,⟨#[]⟩,0,[]⟩,n)
def denI (num:ByteArray) (n:Nat):RI S31 :=
 if (st n).1=2∧(st n).2.toList≠[49]∧chk ⟨num,(st n).2⟩=0 then unitI st ⟨num,(st n).2⟩ (n+1) else .error n
def litI (num:ByteArray) (n:Nat):RI S31:=if skI st n ⟨#[124]⟩=true then denI st chk num (n+1) else unitI st ⟨num,⟨#[49]⟩⟩ n
def listI (ex:Nat→RI S31) (close:ByteArray):Nat→List S31→Nat→RI (List S31)
 | 0,_,n=>.error n
 | k+1,acc,n=>zBL (ex n) fun x m =>
  if (acc++[x]).length<8∧skI st m ⟨#[44]⟩=true then listI ex close k (acc++[x]) (m+1) else zE4 st close (acc++[x]) m
def argsI (ex:Nat→RI S31) (nm:ByteArray) (n:Nat):RI S31 :=
 if skI st n ⟨#[41]⟩=true then .ok (⟨14,z28,nm,0,[]⟩,n+1) else zBL (listI st ex ⟨#[41]⟩ 8 [] n) fun xs m=>.ok (⟨14,z28,nm,0,xs⟩,m)
def nameI (ex:Nat→RI S31) (nm:ByteArray) (n:Nat):RI S31 :=
 if skI st n ⟨#[40]⟩=true then argsI st ex nm (n+1) else .ok (⟨1,z28,nm,0,[]⟩,n)
def atomI (ex:Nat→RI S31) (n:Nat):RI S31 :=
 if (st n).1=2 then litI st chk (st n).2 (n+1)
 else if (st n).1=0 then nameI st ex (st n).2 (n+1)
 else if skI st n ⟨#[40]⟩=true then zBL (ex (n+1)) fun x m=>zE4 st ⟨#[41]⟩ x m
 else if skI st n ⟨#[91]⟩=true then zBL (listI st ex ⟨#[93]⟩ 8 [] (n+1)) fun xs m=>.ok (⟨8,z28,⟨#[]⟩,0,xs⟩,m)
 else .error n
def zB9 (ex:Nat→RI S31):Nat→S31→Nat→RI S31
 | 0,x,n=>.ok (x,n)
 | k+1,x,n=>if skI st n ⟨#[91]⟩=true then zBL (ex (n+1)) fun y m=>zBL (zE4 st ⟨#[93]⟩ y m) fun y m=>zB9 ex k (twoX 9 x y) m else .ok (x,n)
variable (L:Nat)
def zBE (ex:Nat→RI S31) (n:Nat):RI S31:=zBL (atomI st chk ex n) fun x m=>zB9 st ex L x m
def expoI (x:S31) (n:Nat):RI S31 :=
 if skI st n ⟨#[45]⟩=true then zBL (numI st 1 9 (n+1)) fun v m=>.ok (⟨7,z28,⟨#[]⟩,-v,[x]⟩,m) else zBL (numI st 0 9 n) fun v m=>.ok (⟨7,z28,⟨#[]⟩,v,[x]⟩,m)
def zEL (x:S31) (n:Nat):RI S31:=if skI st n ⟨#[94]⟩=true then expoI st x (n+1) else .ok (x,n)
def zCR (ex:Nat→RI S31) (n:Nat):RI S31:=zBL (zBE st chk L ex n) fun x m=>zEL st x m
def zB2 (ex:Nat→RI S31):Nat→S31→Nat→RI S31
 | 0,x,n=>.ok (x,n)
 | k+1,x,n =>
  if skI st n ⟨#[42]⟩=true then zBL (zCR st chk L ex (n+1)) fun y m=>zB2 ex k (twoX 5 x y) m
  else if skI st n ⟨#[47]⟩=true then zBL (zCR st chk L ex (n+1)) fun y m=>zB2 ex k (twoX 6 x y) m
  else .ok (x,n)
def zBe (ex:Nat→RI S31) (n:Nat):RI S31:=zBL (zCR st chk L ex n) fun x m=>zB2 st chk L ex L x m
def zBi (ex:Nat→RI S31):Nat→S31→Nat→RI S31
 | 0,x,n=>.ok (x,n)
 | k+1,x,n =>
  if skI st n ⟨#[43]⟩=true then zBL (zBe st chk L ex (n+1)) fun y m=>zBi ex k (twoX 3 x y) m
  else if skI st n ⟨#[45]⟩=true then zBL (zBe st chk L ex (n+1)) fun y m=>zBi ex k (twoX 4 x y) m
  else .ok (x,n)
def zDV (ex:Nat→RI S31) (n:Nat):RI S31 :=
 if skI st n ⟨#[45]⟩=true then zBL (zBe st chk L ex (n+1)) fun x m=>zBi st chk L ex L ⟨2,z28,⟨#[]⟩,0,[x]⟩ m
 else zBL (zBe st chk L ex n) fun x m=>zBi st chk L ex L x m
def loopI4 (ex:Nat→RI S31) (op:Int) (nm:ByteArray) (n:Nat):RI S31 :=
 zBL (numI st 1 99 n) fun v m=>zBL (zFc st ex ⟨#[46]⟩ m) fun x j=>.ok (⟨op,z28,nm,v,[x]⟩,j)
def loopI3 (ex:Nat→RI S31) (op:Int) (nm:ByteArray) (n:Nat):RI S31:=if skI st n ⟨#[60]⟩=true then loopI4 st ex op nm (n+1) else .error n
def loopI (ex:Nat→RI S31) (op:Int) (n:Nat):RI S31:=if (st n).1=0 then loopI3 st ex op (st n).2 (n+1) else .error n
def lettJ (ex:Nat→RI S31) (nm:ByteArray) (n:Nat):RI S31 :=
 zBL (zFc st ex ⟨#[61]⟩ n) fun a m=>zBL (zFc st ex ⟨#[105,110]⟩ m) fun b j=>.ok (⟨13,z28,nm,0,[a,b]⟩,j)
def lettI (ex:Nat→RI S31) (n:Nat):RI S31:=if (st n).1=0 then lettJ st ex (st n).2 (n+1) else .error n
def ifI (ex:Nat→RI S31) (n:Nat):RI S31 :=
 zBL (zDV st chk L ex n) fun a n1=>zBL (zFc st (zDV st chk L ex) ⟨#[60]⟩ n1) fun b n2=>zBL (zFc st ex ⟨#[116,104,101,110]⟩ n2) fun c n3=>zBL (zFc st ex ⟨#[101,108,115,101]⟩ n3) fun d n4 =>
  .ok (⟨12,z28,⟨#[]⟩,0,[a,b,c,d]⟩,n4)
def exprBI (ex:Nat→RI S31) (n:Nat):RI S31 :=
 if skI st n ⟨#[108,101,116]⟩=true then lettI st ex (n+1)
 else if skI st n ⟨#[105,102]⟩=true then ifI st chk L ex (n+1)
 else if skI st n ⟨#[116,97,98]⟩=true then loopI st ex 10 (n+1)
 else if skI st n ⟨#[115,117,109]⟩=true then loopI st ex 11 (n+1)
 else zDV st chk L ex n
def zAY:Nat→Nat→RI S31
 | 0,n=>.error n
 | k+1,n=>exprBI st chk L (zAY k) n
end
def stOf (ts:List S47) (en:Nat) (n:Nat):Tk:=((tokP ts en n).f0,(tokP ts en n).f1)
def mapE {α:Type} (ts:List S47) (en:Nat):RI α→Except Int (α×Nat)
 | .error j=>.error (atP ts en j)
 | .ok p=>.ok p
section
variable {ts:List S47} {en:Nat} {chk:S28→Int}
theorem zAI {α β:Type} (r:RI α) (f:α→Nat→RI β):mapE ts en (zBL r f)=match mapE ts en r with | .error p=>.error p | .ok (x,n)=>mapE ts en (f x n):=by
 cases r with
 | error j=>rfl
 | ok p=>rfl
theorem zAR {α:Type} (c:Prop) [Decidable c] (r s:RI α):mapE ts en (if c then r else s)=if c then mapE ts en r else mapE ts en s:=by split<;>rfl
theorem zF3 (n:Nat) (x:ByteArray):skI (stOf ts en) n x=sk ts en n x:=rfl
theorem numI_of (lo hi:Int) (n:Nat):mapE ts en (numI (stOf ts en) lo hi n)=numS ts en lo hi n:=by
 unfold numI numS;show mapE ts en (match Lib.atoiAll (tokP ts en n).f1.data.toList with | .ok v=>if (tokP ts en n).f0=2∧lo≤v∧v≤hi then .ok (v,n+1) else .error n | _=>.error n)=_
 cases Lib.atoiAll (tokP ts en n).f1.data.toList with
 | ok v=>simp only;rw[zAR];rfl
 | _=>rfl
theorem unitI_of (r:S28) (n:Nat):mapE ts en (unitI (stOf ts en) r n)=zFb ts en r n:=by
 unfold unitI zFb;rw[zAR];rfl
theorem litI_of (n:Nat):mapE ts en (litI (stOf ts en) chk (stOf ts en n).2 (n+1))=litS ts en chk n:=by
 unfold litI litS denI;rw[zAR,zAR,unitI_of,unitI_of];rfl
variable {exI:Nat→RI S31} {ex:Nat→PR} (h:∀n,mapE ts en (exI n)=ex n)
theorem zG2 {α:Type} (cl:ByteArray) (x:α) (n:Nat):mapE ts en (zE4 (stOf ts en) cl x n)=if sk ts en n cl=true then .ok (x,n+1) else .error (atP ts en n):=by
 unfold zE4;rw[zAR];rfl
theorem zFi (cl:ByteArray) (n:Nat) (h:∀n,mapE ts en (exI n)=ex n):mapE ts en (zFc (stOf ts en) exI cl n)=if sk ts en n cl=true then ex (n+1) else .error (atP ts en n):=by
 unfold zFc;rw[zAR,h];rfl
include h in
theorem listI_of (cl:ByteArray) (k:Nat):∀(acc:List S31) (n:Nat),mapE ts en (listI (stOf ts en) exI cl k acc n)=zEQ ts en ex cl k acc n:=by
 induction k with
 | zero=>intro acc n;rfl
 | succ k ih =>
  intro acc n;unfold listI zEQ;rw[zAI,h]
  cases ex n with
  | error p=>rfl
  | ok r =>
   obtain⟨x,m⟩:=r;dsimp only;rw[zAR,ih,zG2];rfl
include h in
theorem atomI_of (n:Nat):mapE ts en (atomI (stOf ts en) chk exI n)=atomS ts en chk ex n:=by
 unfold atomI atomS;rw[zAR,litI_of,zAR,zAR,zAR,zAI,zAI,h,listI_of h];by_cases h2:(tokP ts en n).f0=2
 ·rw[kAa (show (stOf ts en n).1=2 from h2),kAa h2]
 rw[kA9 (show ¬(stOf ts en n).1=2 from h2),kA9 h2];by_cases h0:(tokP ts en n).f0=0
 ·rw[kAa (show (stOf ts en n).1=0 from h0),kAa h0];unfold nameI argsI;rw[zAR,zAR,zAI,listI_of h];by_cases h1:sk ts en (n+1) ⟨#[40]⟩=true
  ·rw[kAa (show skI (stOf ts en) (n+1) ⟨#[40]⟩=true from h1),kAa h1];by_cases h3:sk ts en (n+2) ⟨#[41]⟩=true
   ·rw[kAa (show skI (stOf ts en) (n+1+1) ⟨#[41]⟩=true from h3),kAa h3];rfl
   ·rw[kA9 (show ¬skI (stOf ts en) (n+1+1) ⟨#[41]⟩=true from h3),kA9 h3]
    cases zEQ ts en ex ⟨#[41]⟩ 8 [] (n+2) with
    | error p=>rfl
    | ok r=>rfl
  ·rw[kA9 (show ¬skI (stOf ts en) (n+1) ⟨#[40]⟩=true from h1),kA9 h1];rfl
 rw[kA9 (show ¬(stOf ts en n).1=0 from h0),kA9 h0];by_cases h1:sk ts en n ⟨#[40]⟩=true
 ·rw[kAa (show skI (stOf ts en) n ⟨#[40]⟩=true from h1),kAa h1]
  cases ex (n+1) with
  | error p=>rfl
  | ok r=>simp only[zG2]
 rw[kA9 (show ¬skI (stOf ts en) n ⟨#[40]⟩=true from h1),kA9 h1];by_cases h3:sk ts en n ⟨#[91]⟩=true
 ·rw[kAa (show skI (stOf ts en) n ⟨#[91]⟩=true from h3),kAa h3]
  cases zEQ ts en ex ⟨#[93]⟩ 8 [] (n+1) with
  | error p=>rfl
  | ok r=>rfl
 ·rw[kA9 (show ¬skI (stOf ts en) n ⟨#[91]⟩=true from h3),kA9 h3];rfl
include h in
theorem elemLoopI_of (k:Nat):∀(x:S31) (n:Nat),mapE ts en (zB9 (stOf ts en) exI k x n)=zBS ts en ex k x n:=by
 induction k with
 | zero=>intro x n;rfl
 | succ k ih =>
  intro x n;unfold zB9 zBS;rw[zAR,zAI,h,zF3];by_cases hs:sk ts en n ⟨#[91]⟩=true
  ·rw[kAa hs,kAa hs]
   cases ex (n+1) with
   | error p=>rfl
   | ok r =>
    obtain⟨y,m⟩:=r;dsimp only;rw[zAI,zG2];by_cases hs:sk ts en m ⟨#[93]⟩=true
    ·rw[kAa hs,kAa hs];exact ih _ _
    ·rw[kA9 hs,kA9 hs]
  ·rw[kA9 hs,kA9 hs];rfl
include h in
theorem elementI_of (n:Nat):mapE ts en (zBE (stOf ts en) chk (ts.length+1) exI n)=zCk ts en chk ex n:=by
 unfold zBE zCk;rw[zAI,atomI_of h];simp only[elemLoopI_of h]
 cases atomS ts en chk ex n with
 | error p=>rfl
 | ok r=>rfl
include h in
theorem powerI_of (n:Nat):mapE ts en (zCR (stOf ts en) chk (ts.length+1) exI n)=zCv ts en chk ex n:=by
 unfold zCR zCv;rw[zAI,elementI_of h]
 cases zCk ts en chk ex n with
 | error p=>rfl
 | ok r =>
  obtain⟨x,m⟩:=r;dsimp only;unfold zEL expoI;rw[zAR,zAR,zAI,zAI,numI_of,numI_of,zF3,zF3];by_cases h1:sk ts en m ⟨#[94]⟩=true
  ·rw[kAa h1,kAa h1];by_cases h2:sk ts en (m+1) ⟨#[45]⟩=true
   ·rw[kAa h2,kAa h2]
    cases numS ts en 1 9 (m+2) with
    | error p=>rfl
    | ok r=>rfl
   ·rw[kA9 h2,kA9 h2]
    cases numS ts en 0 9 (m+1) with
    | error p=>rfl
    | ok r=>rfl
  ·rw[kA9 h1,kA9 h1];rfl
include h in
theorem prodLoopI_of (k:Nat):∀(x:S31) (n:Nat),mapE ts en (zB2 (stOf ts en) chk (ts.length+1) exI k x n)=zBu ts en chk ex k x n:=by
 induction k with
 | zero=>intro x n;rfl
 | succ k ih =>
  intro x n;unfold zB2 zBu;rw[zAR,zAR,zAI,zAI,powerI_of h,zF3,zF3];simp only[ih];by_cases h1:sk ts en n ⟨#[42]⟩=true
  ·rw[kAa h1,kAa h1]
   cases zCv ts en chk ex (n+1) with
   | error p=>rfl
   | ok r=>rfl
  ·rw[kA9 h1,kA9 h1];by_cases h2:sk ts en n ⟨#[47]⟩=true
   ·rw[kAa h2,kAa h2]
    cases zCv ts en chk ex (n+1) with
    | error p=>rfl
    | ok r=>rfl
   ·rw[kA9 h2,kA9 h2];rfl
include h in
theorem zE8 (n:Nat):mapE ts en (zBe (stOf ts en) chk (ts.length+1) exI n)=zAO ts en chk ex n:=by
 unfold zBe zAO;rw[zAI,powerI_of h];simp only[prodLoopI_of h]
 cases zCv ts en chk ex n with
 | error p=>rfl
 | ok r=>rfl
include h in
theorem sumLoopI_of (k:Nat):∀(x:S31) (n:Nat),mapE ts en (zBi (stOf ts en) chk (ts.length+1) exI k x n)=zAW ts en chk ex k x n:=by
 induction k with
 | zero=>intro x n;rfl
 | succ k ih =>
  intro x n;unfold zBi zAW;rw[zAR,zAR,zAI,zAI,zE8 h,zF3,zF3];simp only[ih];by_cases h1:sk ts en n ⟨#[43]⟩=true
  ·rw[kAa h1,kAa h1]
   cases zAO ts en chk ex (n+1) with
   | error p=>rfl
   | ok r=>rfl
  ·rw[kA9 h1,kA9 h1];by_cases h2:sk ts en n ⟨#[45]⟩=true
   ·rw[kAa h2,kAa h2]
    cases zAO ts en chk ex (n+1) with
    | error p=>rfl
    | ok r=>rfl
   ·rw[kA9 h2,kA9 h2];rfl
include h in
theorem sumsI_of (n:Nat):mapE ts en (zDV (stOf ts en) chk (ts.length+1) exI n)=zCQ ts en chk ex n:=by
 unfold zDV zCQ;rw[zAR,zAI,zAI,zE8 h,zE8 h,zF3];simp only[sumLoopI_of h];by_cases h1:sk ts en n ⟨#[45]⟩=true
 ·rw[kAa h1,kAa h1]
  cases zAO ts en chk ex (n+1) with
  | error p=>rfl
  | ok r=>rfl
 ·rw[kA9 h1,kA9 h1]
  cases zAO ts en chk ex n with
  | error p=>rfl
  | ok r=>rfl
include h in
theorem loopI_of (op:Int) (n:Nat):mapE ts en (loopI (stOf ts en) exI op n)=loopS ts en ex op n:=by
 unfold loopI loopI3 loopI4 loopS;rw[zAR,zAR,zAI,numI_of];simp only[zAI,zFi _ _ h];by_cases h0:(tokP ts en n).f0=0
 ·rw[kAa (show (stOf ts en n).1=0 from h0),kAa h0];by_cases h1:sk ts en (n+1) ⟨#[60]⟩=true
  ·rw[kAa (show skI (stOf ts en) (n+1) ⟨#[60]⟩=true from h1),kAa h1]
   cases numS ts en 1 99 (n+1+1) with
   | error p=>rfl
   | ok r =>
    obtain⟨v,m⟩:=r;dsimp only;by_cases h2:sk ts en m ⟨#[46]⟩=true
    ·rw[kAa h2,kAa h2];cases ex (m+1)<;>rfl
    ·rw[kA9 h2,kA9 h2]
  ·rw[kA9 (show ¬skI (stOf ts en) (n+1) ⟨#[60]⟩=true from h1),kA9 h1];rfl
 ·rw[kA9 (show ¬(stOf ts en n).1=0 from h0),kA9 h0];rfl
include h in
theorem lettI_of (n:Nat):mapE ts en (lettI (stOf ts en) exI n)=letS ts en ex n:=by
 unfold lettI lettJ letS;rw[zAR];simp only[zAI,zFi _ _ h];by_cases h0:(tokP ts en n).f0=0
 ·rw[kAa (show (stOf ts en n).1=0 from h0),kAa h0];by_cases h1:sk ts en (n+1) ⟨#[61]⟩=true
  ·rw[kAa h1,kAa h1]
   cases ex (n+1+1) with
   | error p=>rfl
   | ok r =>
    obtain⟨a,m⟩:=r;dsimp only;by_cases h2:sk ts en m ⟨#[105,110]⟩=true
    ·rw[kAa h2,kAa h2];cases ex (m+1)<;>rfl
    ·rw[kA9 h2,kA9 h2]
  ·rw[kA9 h1,kA9 h1]
 ·rw[kA9 (show ¬(stOf ts en n).1=0 from h0),kA9 h0];rfl
include h in
theorem ifI_of (n:Nat):mapE ts en (ifI (stOf ts en) chk (ts.length+1) exI n)=ifS ts en chk ex n:=by
 have hs:=fun n=>sumsI_of (chk:=chk) h n
 unfold ifI ifS;simp only[zAI,zFi _ _ h,zFi _ _ hs,hs]
 cases zCQ ts en chk ex n with
 | error p=>rfl
 | ok r =>
  obtain⟨a,n1⟩:=r;dsimp only;by_cases h1:sk ts en n1 ⟨#[60]⟩=true
  ·rw[kAa h1,kAa h1]
   cases zCQ ts en chk ex (n1+1) with
   | error p=>rfl
   | ok r =>
    obtain⟨b,n2⟩:=r;dsimp only;by_cases h2:sk ts en n2 ⟨#[116,104,101,110]⟩=true
    ·rw[kAa h2,kAa h2]
     cases ex (n2+1) with
     | error p=>rfl
     | ok r =>
      obtain⟨c,n3⟩:=r;dsimp only;by_cases h3:sk ts en n3 ⟨#[101,108,115,101]⟩=true
      ·rw[kAa h3,kAa h3];cases ex (n3+1)<;>rfl
      ·rw[kA9 h3,kA9 h3]
    ·rw[kA9 h2,kA9 h2]
  ·rw[kA9 h1,kA9 h1]
theorem exprI_of (k:Nat):∀n,mapE ts en (zAY (stOf ts en) chk (ts.length+1) k n)=zCY ts en chk k n:=by
 induction k with
 | zero=>intro n;rfl
 | succ k ih =>
  intro n;unfold zAY zCY exprBI exprB;rw[zAR,zAR,zAR,zAR,lettI_of ih,ifI_of ih,loopI_of ih,loopI_of ih,sumsI_of ih];rfl
end
end
def ofR (n:Int):ByteArray:=(metewandref01_OfInt.f 5 n).getD ⟨#[]⟩
theorem ofR_all:((List.range 109).all fun i=>(metewandref01_OfInt.f 5 ((i:Int)-9)).isSome&&decide ((ofR ((i:Int)-9)).size≤2))=true:=kCU
theorem ofR_at (n:Int) (h0:-9≤n) (h1:n≤99):(metewandref01_OfInt.f 5 n).isSome=true∧(ofR n).size≤2:=by
 have:=kBi.1 ofR_all (n+9).toNat (kBO.2 kCT);rw[show ((((n+9).toNat:Nat):Int)-9)=n by omega,kAj,kAN] at this;exact this
theorem zDM (n:Int) (h0:-9≤n) (h1:n≤99):(ofR n).size≤2:=(ofR_at n h0 h1).2
theorem zEd (n:Int) (h0:-9≤n) (h1:n≤99) (w:World):Calls Tryz.prog 84 #[.int .i64 n] w fun e w'=>e=.returned (.string (ofR n))∧Below w.heap.size w w':=by
 obtain⟨r,h⟩:=kC3.1 (ofR_at n h0 h1).1;have e:ofR n=r:=by unfold ofR;rw[h];rfl
 rw[e];exact metewandref01_OfInt.calls 5 n r w h
def levR (op:Int):Int:=if op=13 then 0 else if op=12 then 0 else if op=10 then 0 else if op=11 then 0 else if op=2 then 1 else if op=3 then 1 else if op=4 then 1 else if op=5 then 2 else if op=6 then 2 else if op=7 then 3 else 4
theorem levR_f (op:Int) (a b c:ByteArray) (d:Int) (l:List S31):metewandref13_level.f 20 op a b c d l=some (levR op):=by
 unfold metewandref13_level.f levR;simp only[metewandref13_level.j0,metewandref13_level.j1,metewandref13_level.j2];by_cases h13:op=13
 ·simp[h13]
 by_cases h12:op=12
 ·simp[h12]
 by_cases h10:op=10
 ·simp[h10]
 by_cases h11:op=11
 ·simp[h11]
 by_cases h2:op=2
 ·simp[h2]
 by_cases h3:op=3
 ·simp[h3]
 by_cases h4:op=4
 ·simp[h4]
 by_cases h5:op=5
 ·simp[h5]
 by_cases h6:op=6
 ·simp[h6]
 by_cases h7:op=7
 ·simp[h7]
 simp[h13,h12,h10,h11,h2,h3,h4,h5,h6,h7]
def zCS (lv want:Int) (t:ByteArray):ByteArray:=if lv<want then ⟨#[40]⟩++t++⟨#[41]⟩ else t
def argR (ts:List (Int×ByteArray)) (i:Nat) (want:Int):ByteArray:=zCS (ts.getD i (0,⟨#[]⟩)).1 want (ts.getD i (0,⟨#[]⟩)).2
def zBz:List ByteArray→ByteArray
 | []=>⟨#[]⟩
 | t :: ts=>ts.foldl (fun a u=>a++⟨#[44,32]⟩++u) t
theorem ByteArray.empty_app (t:ByteArray):(⟨#[]⟩:ByteArray)++t=t:=by apply kBX;simp[kCH]
theorem joinR_snoc (l:List ByteArray) (t:ByteArray) (h:l≠[]):zBz (l++[t])=zBz l++⟨#[44,32]⟩++t:=by
 cases l with
 | nil=>exact absurd rfl h
 | cons a l=>simp[zBz,List.foldl_append]
def litN (num:S28):ByteArray:=if num.f1.toList == [49] then num.f0 else num.f0++⟨#[124]⟩++num.f1
def litR (num:S28) (name:ByteArray):ByteArray:=if name.toList == [] then litN num else litN num++⟨#[123]⟩++name++⟨#[125]⟩
def openRO (op:Int) (num:S28) (name:ByteArray) (size:Int) (ts:List (Int×ByteArray)):ByteArray :=
 if op=0 then litR num name else
 if op=1 then name else
 if op=2 then ⟨#[45]⟩++argR ts 0 2 else
 if op=3 then argR ts 0 1++⟨#[32,43,32]⟩++argR ts 1 2 else
 if op=4 then argR ts 0 1++⟨#[32,45,32]⟩++argR ts 1 2 else
 if op=5 then argR ts 0 2++⟨#[32,42,32]⟩++argR ts 1 3 else
 if op=6 then argR ts 0 2++⟨#[32,47,32]⟩++argR ts 1 3 else
 if op=7 then argR ts 0 4++⟨#[94]⟩++(ofR size) else
 if op=9 then argR ts 0 4++⟨#[91]⟩++argR ts 1 0++⟨#[93]⟩ else
 if op=10 then ⟨#[116,97,98,32]⟩++name++⟨#[32,60,32]⟩++(ofR size)++⟨#[32,46,32]⟩++argR ts 0 0 else
 if op=11 then ⟨#[115,117,109,32]⟩++name++⟨#[32,60,32]⟩++(ofR size)++⟨#[32,46,32]⟩++argR ts 0 0 else
 if op=12 then ⟨#[105,102,32]⟩++argR ts 0 1++⟨#[32,60,32]⟩++argR ts 1 1++⟨#[32,116,104,101,110,32]⟩++argR ts 2 0++⟨#[32,101,108,115,101,32]⟩++argR ts 3 0 else
 if op=13 then ⟨#[108,101,116,32]⟩++name++⟨#[32,61,32]⟩++argR ts 0 0++⟨#[32,105,110,32]⟩++argR ts 1 0 else
 if op=8 then ⟨#[91]⟩++zBz (ts.map fun p=>zCS p.1 0 p.2)++⟨#[93]⟩ else
 name++⟨#[40]⟩++zBz (ts.map fun p=>zCS p.1 0 p.2)++⟨#[41]⟩
mutual
def zBl:S31→ByteArray
 | ⟨op,num,name,size,l⟩=>openRO op num name size (zG6 l)
def zG6:List S31→List (Int×ByteArray)
 | []=>[]
 | x :: l=>(levR x.f0,zBl x) :: zG6 l
end
def zAi (x:S31) (want:Int):ByteArray:=zCS (levR x.f0) want (zBl x)
theorem zDf:∀l:List S31,(zG6 l).map (fun p=>zCS p.1 0 p.2)=l.map (fun y=>zAi y 0)
 | []=>rfl
 | x :: l=>by
  unfold zG6;rw[kAo,kAo,zDf l];rfl
theorem zEI (x:S31) (want:Int):(zAi x want).size≤(zBl x).size+2:=by
 unfold zAi zCS;split
 ·rw[kBD,kBD];show 1+(zBl x).size+1≤_;omega
 ·omega
theorem rtext_of (x:S31) (hsz:(zBl x).size≤1000000) (hop:∀v w,Vw w x v→Calls Tryz.prog 46 #[v] w fun e w'=>e=.returned (.string (zBl x))∧Below w.heap.size w w') (want:Int) (v:Value) (w:World) (hv:Vw w x v) :
  Calls Tryz.prog 83 #[v,.int .i64 want] w fun e w'=>e=.returned (.string (zAi x want))∧Below w.heap.size w w':=by
 obtain⟨A,c,rfl,hc1,hc2⟩:=hv.out;have hb:=(kA3 w.heap.size w).alloc (kA2 _) (.cells #[.int .i64 x.f0,.string x.f1.f0,.string x.f1.f1,.string x.f2,.int .i64 x.f3,.slice A x.f4.length c] 31);have hbl:=zA4 w (.cells #[.int .i64 x.f0,.string x.f1.f0,.string x.f1.f1,.string x.f2,.int .i64 x.f3,.slice A x.f4.length c] 31);have HL:=kA1 (metewandref13_level.calls 20 x.f0 x.f1.f0 x.f1.f1 x.f2 x.f3 A c x.f4 (levR x.f0) _ (Kd.C_below hc2 hb) hc1 (levR_f _ _ _ _ _ _));have HO:=kA1 hop;have HV:=kA1 hv;have HT:Hid (zAi x want=zCS (levR x.f0) want (zBl x)):=kA1 rfl;generalize zAi x want=R at *;generalize zBl x=r at *;generalize levR x.f0=lv at *;unfold exV at *;clear hop hv hc2;go_enter Tryz.func83,Tryz.ntmps83;go_wp2_with fail;refine HL.out.mono ?_;rintro e w1 ⟨rfl,hb1⟩;have hx:=zA9 hb1 hbl;obtain⟨⟨p0,p1,p2,p3,p4,p5⟩,_,xl⟩:=zA6 hx;have hw1:=hb.trans (hb1.mono hb.size);clear hb hb1 hbl HL
 cases hl:decide (lv<want)
 ·go_wp2_with fail;refine (HO.out _ _ (HV.out.below hw1)).mono ?_;rintro e w2 ⟨rfl,hb2⟩;go_wp2;go_ret;exact⟨by rw[HT.out];unfold zCS;rw[kA9 (kBm hl)];rfl,hw1.trans (hb2.mono hw1.size)⟩
 ·go_wp2_with fail;refine (HO.out _ _ (HV.out.below hw1)).mono ?_;rintro e w2 ⟨rfl,hb2⟩;go_wp2;go_ret;exact⟨by rw[HT.out];unfold zCS;rw[kAa (kAl hl)];rfl,hw1.trans (hb2.mono hw1.size)⟩
theorem rtexts_of (l:List S31) (hl:l.length≤1000000) (hsz:∀j,j≤l.length→(zBz ((l.take j).map fun y=>zAi y 0)).size≤1000000) (hs1:∀j (h:j<l.length),(zAi l[j] 0).size≤1000000)
  (hrec:∀j (h:j<l.length) v w,Vw w l[j] v→Calls Tryz.prog 83 #[v,.int .i64 0] w fun e w'=>e=.returned (.string (zAi l[j] 0))∧Below w.heap.size w w') (A:Option Addr) (c:Nat) (w:World) (hc:k31.C w A l.length l) :
  Calls Tryz.prog 85 #[.slice A l.length c] w fun e w'=>e=.returned (.string (zBz (l.map fun y=>zAi y 0)))∧Below w.heap.size w w':=by
 have hjs:∀j (hj:j<l.length),0<j→zBz ((l.take (j+1)).map fun y=>zAi y 0)=zBz ((l.take j).map fun y=>zAi y 0)++⟨#[44,32]⟩++zAi l[j] 0:=fun j hj h0=>by
  rw[zCC l j hj,kCP,List.map_singleton,joinR_snoc _ _ (by
   intro e;have:=congrArg List.length e;rw[List.length_map,kAh,List.length_nil] at this;omega)]
 have hj0:∀h:0<l.length,zBz ((l.take 1).map fun y=>zAi y 0)=zAi l[0] 0:=fun hj=>by
  rw[zCC l 0 hj];rfl
 have hfin:l.take l.length=l:=kB1;have HC:=kA1 hc;have HJ:=kA1 hjs;have HJ0:=kA1 hj0;have HF:=kA1 hfin;have HS:=kA1 hsz;have HS1:=kA1 hs1;have HR:=kA1 hrec;clear hc hjs hj0 hfin hsz hs1 hrec;go_enter Tryz.func85,Tryz.ntmps85;go_wp2;go_loopg [3,4] l.length (fun k v3 v4 wr=>∃j:Nat,j+k=l.length∧v4=.int .i64 j∧v3=.string (zBz ((l.take j).map fun y=>zAi y 0))∧Below w.heap.size w wr)
 case atStart=>exact⟨0,kCT,rfl,rfl,kA3 _ _⟩
 case round =>
  obtain⟨j,hj,rfl,rfl,hb⟩:=hrel;by_cases hjl:j<l.length
  ·obtain⟨ad,A5,c5,rfl,q0,q1,q2,q3,q4,q5,hvw⟩:=zAo (Kd.C_below HC.out hb) j hjl;have hr:=HR.out j hjl;have hs2:=HS.out j kCT;have hs3:=HS1.out j hjl;have hn:=HJ.out j hjl;have h00:j=0→zBz ((l.take (j+1)).map fun y=>zAi y 0)=zAi l[j] 0:=fun e=>by
    subst e;exact HJ0.out hjl
   have HN:=kA1 hn;have H00:=kA1 h00;clear hn h00;have HZ:Hid (j=0→zBz ((l.take j).map fun y=>zAi y 0)=⟨#[]⟩):=kA1 (fun e=>by subst e;rfl);generalize zBz ((l.take j).map fun y=>zAi y 0)=r0 at *;generalize l[j]=y at *;generalize zAi y 0=t at *;have HV:=kA1 hvw;have HR2:=kA1 hr;clear hvw hr;by_cases h0:j=0
   ·have hd:decide (0<j)=false:=kA8 kCT;obtain rfl:=HZ.out h0;have E1:=kA1 (H00.out h0);clear h0;go_wp2_with fail;refine (HR2.out _ _ HV.out).mono ?_;rintro e w1 ⟨rfl,hb1⟩;have hb2:=hb.trans (hb1.mono hb.size);go_wp2;go_roundg (gk-1)
    case measure=>omega
    case rel=>exact⟨j+1,kCT,by go_num,by rw[E1.out,ByteArray.empty_app],hb2⟩
   ·have hd:decide (0<j)=true:=kA7 kCT;have hd2:0<j:=kCT
    have e1:=HN.out kCT;have E1:=kA1 e1;clear e1;go_wp2_with fail;refine (HR2.out _ _ HV.out).mono ?_;rintro e w1 ⟨rfl,hb1⟩;have hb2:=hb.trans (hb1.mono hb.size);go_wp2;go_roundg (gk-1)
    case measure=>omega
    case rel=>exact⟨j+1,kCT,by go_num,by rw[E1.out],hb2⟩
  ·obtain rfl:j=l.length:=kCT
   go_wp2;go_ret;exact⟨by rw[HF.out];rfl,hb⟩
end Go.Proofs.YtjaobihcdkjmbaaGreatDoor
end
