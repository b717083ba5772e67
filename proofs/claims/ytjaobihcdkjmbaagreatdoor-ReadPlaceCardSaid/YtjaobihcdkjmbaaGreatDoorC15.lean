/- The law ReadPlace answers true for every argument; a part of its proof. -/
import Derived.Test.YtjaobihcdkjmbaaGreatDoorCa
import Derived.Test.YtjaobihcdkjmbaaGreatDoorCb
import Derived.Test.YtjaobihcdkjmbaaGreatDoorC0
import Derived.Test.YtjaobihcdkjmbaaGreatDoorC7
import Derived.Test.YtjaobihcdkjmbaaGreatDoorC9
import Derived.Test.YtjaobihcdkjmbaaGreatDoorC12
set_option linter.unusedVariables false
set_option linter.unusedSimpArgs false
namespace Go.Proofs.YtjaobihcdkjmbaaGreatDoor.PReadTokens
end Go.Proofs.YtjaobihcdkjmbaaGreatDoor.PReadTokens
namespace Go.Proofs.YtjaobihcdkjmbaaGreatDoorW.PrintWords
end Go.Proofs.YtjaobihcdkjmbaaGreatDoorW.PrintWords
set_option maxRecDepth 100000
set_option maxHeartbeats 4000000
section
namespace Go.Proofs.YtjaobihcdkjmbaaGreatDoor
open Go.RowKit Go.Proofs.YtjaobihcdkjmbaaGreatDoorW.PrintWords Go.Proofs.YtjaobihcdkjmbaaGreatDoor.PReadTokens
section
abbrev Tk:=Int×ByteArray
abbrev RI (α:Type):=Except Nat (α×Nat)
def zBE {α β:Type} (r:RI α) (f:α→Nat→RI β):RI β:=match r with | .error j=>.error j | .ok (x,n)=>f x n
section
variable (st:Nat→Tk) (chk:S28→Int)
def skI (n:Nat) (x:ByteArray):Bool:=((st n).1==4||(st n).1==1)&&(st n).2.toList==x.toList
def zEO {α:Type} (cl:ByteArray) (x:α) (n:Nat):RI α:=if skI st n cl=true then .ok (x,n+1) else .error n
def zDG (ex:Nat→RI S31) (x:ByteArray) (n:Nat):RI S31:=if skI st n x=true then ex (n+1) else .error n
def numI (lo hi:Int) (n:Nat):RI Int :=
 match Lib.atoiAll (st n).2.data.toList with
 | .ok v=>if (st n).1=2∧lo≤v∧v≤hi then .ok (v,n+1) else .error n
 | _=>.error n
def unitI (r:S28) (n:Nat):RI S31:=if (st n).1=3 then .ok (⟨0,r,(st n).2,0,[]⟩,n+1) else .ok (⟨0,r,⟨#[]⟩,0,[]⟩,n)
def denI (num:ByteArray) (n:Nat):RI S31 :=
 if (st n).1=2∧(st n).2.toList≠[49]∧chk ⟨num,(st n).2⟩=0 then unitI st ⟨num,(st n).2⟩ (n+1) else .error n
def litI (num:ByteArray) (n:Nat):RI S31:=if skI st n ⟨#[124]⟩=true then denI st chk num (n+1) else unitI st ⟨num,⟨#[49]⟩⟩ n
def listI (ex:Nat→RI S31) (close:ByteArray):Nat→List S31→Nat→RI (List S31)
 | 0,_,n=>.error n
 | k+1,acc,n=>zBE (ex n) fun x m =>
  if (acc++[x]).length<8∧skI st m ⟨#[44]⟩=true then listI ex close k (acc++[x]) (m+1) else zEO st close (acc++[x]) m
def argsI (ex:Nat→RI S31) (nm:ByteArray) (n:Nat):RI S31 :=
 if skI st n ⟨#[41]⟩=true then .ok (⟨14,z28,nm,0,[]⟩,n+1) else zBE (listI st ex ⟨#[41]⟩ 8 [] n) fun xs m=>.ok (⟨14,z28,nm,0,xs⟩,m)
def nameI (ex:Nat→RI S31) (nm:ByteArray) (n:Nat):RI S31 :=
 if skI st n ⟨#[40]⟩=true then argsI st ex nm (n+1) else .ok (⟨1,z28,nm,0,[]⟩,n)
def atomI (ex:Nat→RI S31) (n:Nat):RI S31 :=
 if (st n).1=2 then litI st chk (st n).2 (n+1)
 else if (st n).1=0 then nameI st ex (st n).2 (n+1)
 else if skI st n ⟨#[40]⟩=true then zBE (ex (n+1)) fun x m=>zEO st ⟨#[41]⟩ x m
 else if skI st n ⟨#[91]⟩=true then zBE (listI st ex ⟨#[93]⟩ 8 [] (n+1)) fun xs m=>.ok (⟨8,z28,⟨#[]⟩,0,xs⟩,m)
 else .error n
def zCt (ex:Nat→RI S31):Nat→S31→Nat→RI S31
 | 0,x,n=>.ok (x,n)
 | k+1,x,n=>if skI st n ⟨#[91]⟩=true then zBE (ex (n+1)) fun y m=>zBE (zEO st ⟨#[93]⟩ y m) fun y m=>zCt ex k (twoX 9 x y) m else .ok (x,n)
variable (L:Nat)
def zDz (ex:Nat→RI S31) (n:Nat):RI S31:=zBE (atomI st chk ex n) fun x m=>zCt st ex L x m
def expoI (x:S31) (n:Nat):RI S31 :=
 if skI st n ⟨#[45]⟩=true then zBE (numI st 1 9 (n+1)) fun v m=>.ok (⟨7,z28,⟨#[]⟩,-v,[x]⟩,m) else zBE (numI st 0 9 n) fun v m=>.ok (⟨7,z28,⟨#[]⟩,v,[x]⟩,m)
def zF1 (x:S31) (n:Nat):RI S31:=if skI st n ⟨#[94]⟩=true then expoI st x (n+1) else .ok (x,n)
def zEA (ex:Nat→RI S31) (n:Nat):RI S31:=zBE (zDz st chk L ex n) fun x m=>zF1 st x m
def zC4 (ex:Nat→RI S31):Nat→S31→Nat→RI S31
 | 0,x,n=>.ok (x,n)
 | k+1,x,n =>
  if skI st n ⟨#[42]⟩=true then zBE (zEA st chk L ex (n+1)) fun y m=>zC4 ex k (twoX 5 x y) m
  else if skI st n ⟨#[47]⟩=true then zBE (zEA st chk L ex (n+1)) fun y m=>zC4 ex k (twoX 6 x y) m
  else .ok (x,n)
def zCj (ex:Nat→RI S31) (n:Nat):RI S31:=zBE (zEA st chk L ex n) fun x m=>zC4 st chk L ex L x m
def zBS (ex:Nat→RI S31):Nat→S31→Nat→RI S31
 | 0,x,n=>.ok (x,n)
 | k+1,x,n =>
  if skI st n ⟨#[43]⟩=true then zBE (zCj st chk L ex (n+1)) fun y m=>zBS ex k (twoX 3 x y) m
  else if skI st n ⟨#[45]⟩=true then zBE (zCj st chk L ex (n+1)) fun y m=>zBS ex k (twoX 4 x y) m
  else .ok (x,n)
def sumsI (ex:Nat→RI S31) (n:Nat):RI S31 :=
 if skI st n ⟨#[45]⟩=true then zBE (zCj st chk L ex (n+1)) fun x m=>zBS st chk L ex L ⟨2,z28,⟨#[]⟩,0,[x]⟩ m
 else zBE (zCj st chk L ex n) fun x m=>zBS st chk L ex L x m
def loopI4 (ex:Nat→RI S31) (op:Int) (nm:ByteArray) (n:Nat):RI S31 :=
 zBE (numI st 1 99 n) fun v m=>zBE (zDG st ex ⟨#[46]⟩ m) fun x j=>.ok (⟨op,z28,nm,v,[x]⟩,j)
def loopI3 (ex:Nat→RI S31) (op:Int) (nm:ByteArray) (n:Nat):RI S31:=if skI st n ⟨#[60]⟩=true then loopI4 st ex op nm (n+1) else .error n
def loopI (ex:Nat→RI S31) (op:Int) (n:Nat):RI S31:=if (st n).1=0 then loopI3 st ex op (st n).2 (n+1) else .error n
def lettJ (ex:Nat→RI S31) (nm:ByteArray) (n:Nat):RI S31 :=
 zBE (zDG st ex ⟨#[61]⟩ n) fun a m=>zBE (zDG st ex ⟨#[105,110]⟩ m) fun b j=>.ok (⟨13,z28,nm,0,[a,b]⟩,j)
def lettI (ex:Nat→RI S31) (n:Nat):RI S31:=if (st n).1=0 then lettJ st ex (st n).2 (n+1) else .error n
def ifI (ex:Nat→RI S31) (n:Nat):RI S31 :=
 zBE (sumsI st chk L ex n) fun a n1=>zBE (zDG st (sumsI st chk L ex) ⟨#[60]⟩ n1) fun b n2=>zBE (zDG st ex ⟨#[116,104,101,110]⟩ n2) fun c n3=>zBE (zDG st ex ⟨#[101,108,115,101]⟩ n3) fun d n4 =>
  .ok (⟨12,z28,⟨#[]⟩,0,[a,b,c,d]⟩,n4)
def exprBI (ex:Nat→RI S31) (n:Nat):RI S31 :=
 if skI st n ⟨#[108,101,116]⟩=true then lettI st ex (n+1)
 else if skI st n ⟨#[105,102]⟩=true then ifI st chk L ex (n+1)
 else if skI st n ⟨#[116,97,98]⟩=true then loopI st ex 10 (n+1)
 else if skI st n ⟨#[115,117,109]⟩=true then loopI st ex 11 (n+1)
 else sumsI st chk L ex n
def exprI:Nat→Nat→RI S31
 | 0,n=>.error n
 | k+1,n=>exprBI st chk L (exprI k) n
end
def stOf (ts:List S47) (en:Nat) (n:Nat):Tk:=((tokP ts en n).f0,(tokP ts en n).f1)
def mapE {α:Type} (ts:List S47) (en:Nat):RI α→Except Int (α×Nat)
 | .error j=>.error (atP ts en j)
 | .ok p=>.ok p
section
variable {ts:List S47} {en:Nat} {chk:S28→Int}
theorem zAN {α β:Type} (r:RI α) (f:α→Nat→RI β):mapE ts en (zBE r f)=match mapE ts en r with | .error p=>.error p | .ok (x,n)=>mapE ts en (f x n):=by
 cases r with
 | error j=>rfl
 | ok p=>rfl
theorem zB2 {α:Type} (c:Prop) [Decidable c] (r s:RI α):mapE ts en (if c then r else s)=if c then mapE ts en r else mapE ts en s:=by split<;>rfl
theorem zFk (n:Nat) (x:ByteArray):skI (stOf ts en) n x=sk ts en n x:=rfl
theorem numI_of (lo hi:Int) (n:Nat):mapE ts en (numI (stOf ts en) lo hi n)=numS ts en lo hi n:=by
 unfold numI numS;show mapE ts en (match Lib.atoiAll (tokP ts en n).f1.data.toList with | .ok v=>if (tokP ts en n).f0=2∧lo≤v∧v≤hi then .ok (v,n+1) else .error n | _=>.error n)=_
 cases Lib.atoiAll (tokP ts en n).f1.data.toList with
 | ok v=>simp only;rw[zB2];rfl
 | _=>rfl
theorem unitI_of (r:S28) (n:Nat):mapE ts en (unitI (stOf ts en) r n)=zFr ts en r n:=by
 unfold unitI zFr;rw[zB2];rfl
theorem litI_of (n:Nat):mapE ts en (litI (stOf ts en) chk (stOf ts en n).2 (n+1))=litS ts en chk n:=by
 unfold litI litS denI;rw[zB2,zB2,unitI_of,unitI_of];rfl
variable {exI:Nat→RI S31} {ex:Nat→PR} (h:∀n,mapE ts en (exI n)=ex n)
theorem zGd {α:Type} (cl:ByteArray) (x:α) (n:Nat):mapE ts en (zEO (stOf ts en) cl x n)=if sk ts en n cl=true then .ok (x,n+1) else .error (atP ts en n):=by
 unfold zEO;rw[zB2];rfl
theorem zFv (cl:ByteArray) (n:Nat) (h:∀n,mapE ts en (exI n)=ex n):mapE ts en (zDG (stOf ts en) exI cl n)=if sk ts en n cl=true then ex (n+1) else .error (atP ts en n):=by
 unfold zDG;rw[zB2,h];rfl
include h in
theorem listI_of (cl:ByteArray) (k:Nat):∀(acc:List S31) (n:Nat),mapE ts en (listI (stOf ts en) exI cl k acc n)=zF7 ts en ex cl k acc n:=by
 induction k with
 | zero=>intro acc n;rfl
 | succ k ih =>
  intro acc n;unfold listI zF7;rw[zAN,h]
  cases ex n with
  | error p=>rfl
  | ok r =>
   obtain⟨x,m⟩:=r;dsimp only;rw[zB2,ih,zGd];rfl
include h in
theorem atomI_of (n:Nat):mapE ts en (atomI (stOf ts en) chk exI n)=atomS ts en chk ex n:=by
 unfold atomI atomS;rw[zB2,litI_of,zB2,zB2,zB2,zAN,zAN,h,listI_of h];by_cases h2:(tokP ts en n).f0=2
 ·rw[kAb (show (stOf ts en n).1=2 from h2),kAb h2]
 rw[kAa (show ¬(stOf ts en n).1=2 from h2),kAa h2];by_cases h0:(tokP ts en n).f0=0
 ·rw[kAb (show (stOf ts en n).1=0 from h0),kAb h0];unfold nameI argsI;rw[zB2,zB2,zAN,listI_of h];by_cases h1:sk ts en (n+1) ⟨#[40]⟩=true
  ·rw[kAb (show skI (stOf ts en) (n+1) ⟨#[40]⟩=true from h1),kAb h1];by_cases h3:sk ts en (n+2) ⟨#[41]⟩=true
   ·rw[kAb (show skI (stOf ts en) (n+1+1) ⟨#[41]⟩=true from h3),kAb h3];rfl
   ·rw[kAa (show ¬skI (stOf ts en) (n+1+1) ⟨#[41]⟩=true from h3),kAa h3]
    cases zF7 ts en ex ⟨#[41]⟩ 8 [] (n+2) with
    | error p=>rfl
    | ok r=>rfl
  ·rw[kAa (show ¬skI (stOf ts en) (n+1) ⟨#[40]⟩=true from h1),kAa h1];rfl
 rw[kAa (show ¬(stOf ts en n).1=0 from h0),kAa h0];by_cases h1:sk ts en n ⟨#[40]⟩=true
 ·rw[kAb (show skI (stOf ts en) n ⟨#[40]⟩=true from h1),kAb h1]
  cases ex (n+1) with
  | error p=>rfl
  | ok r=>simp only[zGd]
 rw[kAa (show ¬skI (stOf ts en) n ⟨#[40]⟩=true from h1),kAa h1];by_cases h3:sk ts en n ⟨#[91]⟩=true
 ·rw[kAb (show skI (stOf ts en) n ⟨#[91]⟩=true from h3),kAb h3]
  cases zF7 ts en ex ⟨#[93]⟩ 8 [] (n+1) with
  | error p=>rfl
  | ok r=>rfl
 ·rw[kAa (show ¬skI (stOf ts en) n ⟨#[91]⟩=true from h3),kAa h3];rfl
include h in
theorem elemLoopI_of (k:Nat):∀(x:S31) (n:Nat),mapE ts en (zCt (stOf ts en) exI k x n)=zBU ts en ex k x n:=by
 induction k with
 | zero=>intro x n;rfl
 | succ k ih =>
  intro x n;unfold zCt zBU;rw[zB2,zAN,h,zFk];by_cases hs:sk ts en n ⟨#[91]⟩=true
  ·rw[kAb hs,kAb hs]
   cases ex (n+1) with
   | error p=>rfl
   | ok r =>
    obtain⟨y,m⟩:=r;dsimp only;rw[zAN,zGd];by_cases hs:sk ts en m ⟨#[93]⟩=true
    ·rw[kAb hs,kAb hs];exact ih _ _
    ·rw[kAa hs,kAa hs]
  ·rw[kAa hs,kAa hs];rfl
include h in
theorem elementI_of (n:Nat):mapE ts en (zDz (stOf ts en) chk (ts.length+1) exI n)=zCl ts en chk ex n:=by
 unfold zDz zCl;rw[zAN,atomI_of h];simp only[elemLoopI_of h]
 cases atomS ts en chk ex n with
 | error p=>rfl
 | ok r=>rfl
include h in
theorem powerI_of (n:Nat):mapE ts en (zEA (stOf ts en) chk (ts.length+1) exI n)=zCz ts en chk ex n:=by
 unfold zEA zCz;rw[zAN,elementI_of h]
 cases zCl ts en chk ex n with
 | error p=>rfl
 | ok r =>
  obtain⟨x,m⟩:=r;dsimp only;unfold zF1 expoI;rw[zB2,zB2,zAN,zAN,numI_of,numI_of,zFk,zFk];by_cases h1:sk ts en m ⟨#[94]⟩=true
  ·rw[kAb h1,kAb h1];by_cases h2:sk ts en (m+1) ⟨#[45]⟩=true
   ·rw[kAb h2,kAb h2]
    cases numS ts en 1 9 (m+2) with
    | error p=>rfl
    | ok r=>rfl
   ·rw[kAa h2,kAa h2]
    cases numS ts en 0 9 (m+1) with
    | error p=>rfl
    | ok r=>rfl
  ·rw[kAa h1,kAa h1];rfl
include h in
theorem prodLoopI_of (k:Nat):∀(x:S31) (n:Nat),mapE ts en (zC4 (stOf ts en) chk (ts.length+1) exI k x n)=zBC ts en chk ex k x n:=by
 induction k with
 | zero=>intro x n;rfl
 | succ k ih =>
  intro x n;unfold zC4 zBC;rw[zB2,zB2,zAN,zAN,powerI_of h,zFk,zFk];simp only[ih];by_cases h1:sk ts en n ⟨#[42]⟩=true
  ·rw[kAb h1,kAb h1]
   cases zCz ts en chk ex (n+1) with
   | error p=>rfl
   | ok r=>rfl
  ·rw[kAa h1,kAa h1];by_cases h2:sk ts en n ⟨#[47]⟩=true
   ·rw[kAb h2,kAb h2]
    cases zCz ts en chk ex (n+1) with
    | error p=>rfl
    | ok r=>rfl
   ·rw[kAa h2,kAa h2];rfl
include h in
theorem zEi (n:Nat):mapE ts en (zCj (stOf ts en) chk (ts.length+1) exI n)=zAZ ts en chk ex n:=by
 unfold zCj zAZ;rw[zAN,powerI_of h];simp only[prodLoopI_of h]
 cases zCz ts en chk ex n with
 | error p=>rfl
 | ok r=>rfl
include h in
theorem sumLoopI_of (k:Nat):∀(x:S31) (n:Nat),mapE ts en (zBS (stOf ts en) chk (ts.length+1) exI k x n)=zB9 ts en chk ex k x n:=by
 induction k with
 | zero=>intro x n;rfl
 | succ k ih =>
  intro x n;unfold zBS zB9;rw[zB2,zB2,zAN,zAN,zEi h,zFk,zFk];simp only[ih];by_cases h1:sk ts en n ⟨#[43]⟩=true
  ·rw[kAb h1,kAb h1]
   cases zAZ ts en chk ex (n+1) with
   | error p=>rfl
   | ok r=>rfl
  ·rw[kAa h1,kAa h1];by_cases h2:sk ts en n ⟨#[45]⟩=true
   ·rw[kAb h2,kAb h2]
    cases zAZ ts en chk ex (n+1) with
    | error p=>rfl
    | ok r=>rfl
   ·rw[kAa h2,kAa h2];rfl
include h in
theorem sumsI_of (n:Nat):mapE ts en (sumsI (stOf ts en) chk (ts.length+1) exI n)=zD1 ts en chk ex n:=by
 unfold sumsI zD1;rw[zB2,zAN,zAN,zEi h,zEi h,zFk];simp only[sumLoopI_of h];by_cases h1:sk ts en n ⟨#[45]⟩=true
 ·rw[kAb h1,kAb h1]
  cases zAZ ts en chk ex (n+1) with
  | error p=>rfl
  | ok r=>rfl
 ·rw[kAa h1,kAa h1]
  cases zAZ ts en chk ex n with
  | error p=>rfl
  | ok r=>rfl
include h in
theorem loopI_of (op:Int) (n:Nat):mapE ts en (loopI (stOf ts en) exI op n)=loopS ts en ex op n:=by
 unfold loopI loopI3 loopI4 loopS;rw[zB2,zB2,zAN,numI_of];simp only[zAN,zFv _ _ h];by_cases h0:(tokP ts en n).f0=0
 ·rw[kAb (show (stOf ts en n).1=0 from h0),kAb h0];by_cases h1:sk ts en (n+1) ⟨#[60]⟩=true
  ·rw[kAb (show skI (stOf ts en) (n+1) ⟨#[60]⟩=true from h1),kAb h1]
   cases numS ts en 1 99 (n+1+1) with
   | error p=>rfl
   | ok r =>
    obtain⟨v,m⟩:=r;dsimp only;by_cases h2:sk ts en m ⟨#[46]⟩=true
    ·rw[kAb h2,kAb h2];cases ex (m+1)<;>rfl
    ·rw[kAa h2,kAa h2]
  ·rw[kAa (show ¬skI (stOf ts en) (n+1) ⟨#[60]⟩=true from h1),kAa h1];rfl
 ·rw[kAa (show ¬(stOf ts en n).1=0 from h0),kAa h0];rfl
include h in
theorem lettI_of (n:Nat):mapE ts en (lettI (stOf ts en) exI n)=letS ts en ex n:=by
 unfold lettI lettJ letS;rw[zB2];simp only[zAN,zFv _ _ h];by_cases h0:(tokP ts en n).f0=0
 ·rw[kAb (show (stOf ts en n).1=0 from h0),kAb h0];by_cases h1:sk ts en (n+1) ⟨#[61]⟩=true
  ·rw[kAb h1,kAb h1]
   cases ex (n+1+1) with
   | error p=>rfl
   | ok r =>
    obtain⟨a,m⟩:=r;dsimp only;by_cases h2:sk ts en m ⟨#[105,110]⟩=true
    ·rw[kAb h2,kAb h2];cases ex (m+1)<;>rfl
    ·rw[kAa h2,kAa h2]
  ·rw[kAa h1,kAa h1]
 ·rw[kAa (show ¬(stOf ts en n).1=0 from h0),kAa h0];rfl
include h in
theorem ifI_of (n:Nat):mapE ts en (ifI (stOf ts en) chk (ts.length+1) exI n)=ifS ts en chk ex n:=by
 have hs:=fun n=>sumsI_of (chk:=chk) h n
 unfold ifI ifS;simp only[zAN,zFv _ _ h,zFv _ _ hs,hs]
 cases zD1 ts en chk ex n with
 | error p=>rfl
 | ok r =>
  obtain⟨a,n1⟩:=r;dsimp only;by_cases h1:sk ts en n1 ⟨#[60]⟩=true
  ·rw[kAb h1,kAb h1]
   cases zD1 ts en chk ex (n1+1) with
   | error p=>rfl
   | ok r =>
    obtain⟨b,n2⟩:=r;dsimp only;by_cases h2:sk ts en n2 ⟨#[116,104,101,110]⟩=true
    ·rw[kAb h2,kAb h2]
     cases ex (n2+1) with
     | error p=>rfl
     | ok r =>
      obtain⟨c,n3⟩:=r;dsimp only;by_cases h3:sk ts en n3 ⟨#[101,108,115,101]⟩=true
      ·rw[kAb h3,kAb h3];cases ex (n3+1)<;>rfl
      ·rw[kAa h3,kAa h3]
    ·rw[kAa h2,kAa h2]
  ·rw[kAa h1,kAa h1]
theorem exprI_of (k:Nat):∀n,mapE ts en (exprI (stOf ts en) chk (ts.length+1) k n)=zD8 ts en chk k n:=by
 induction k with
 | zero=>intro n;rfl
 | succ k ih =>
  intro n;unfold exprI zD8 exprBI exprB;rw[zB2,zB2,zB2,zB2,lettI_of ih,ifI_of ih,loopI_of ih,loopI_of ih,sumsI_of ih];rfl
end
end
section
def Gd (st:Nat→Tk) (n j:Nat):Prop:=∀i,n≤i→i<j→(st i).1≠-1
def Fed {α:Type} (st:Nat→Tk) (wt:α→Nat) (b n:Nat):RI α→Prop
 | .error j=>n≤j∧Gd st n j
 | .ok (x,j)=>n≤j∧Gd st n j∧wt x+n≤b+j
section
variable {st:Nat→Tk}
theorem gd_nil (n:Nat):Gd st n n:=fun i h1 h2=>by omega
theorem gd_app {n m j:Nat} (h1:Gd st n m) (h2:Gd st m j):Gd st n j:=fun i a b=>by
 by_cases h:i<m
 ·exact h1 i a h
 ·exact h2 i kCW b
theorem gd_one {n:Nat} (h:(st n).1≠-1):Gd st n (n+1):=fun i a b=>by
 obtain rfl:i=n:=kCW
 exact h
theorem Fed.le {α:Type} {wt:α→Nat} {b b' n:Nat} {r:RI α} (h:Fed st wt b n r) (hb:b≤b'):Fed st wt b' n r:=by
 cases r with
 | error j=>exact h
 | ok p=>exact⟨h.1,h.2.1,kAz h.2.2 kCW⟩
theorem zC0 {α:Type} {wt:α→Nat} {b n:Nat} {x:α} (h:wt x≤b):Fed st wt b n (.ok (x,n):RI α):=⟨kA2 _,gd_nil _,kCW⟩
theorem zCW {α:Type} {wt:α→Nat} {b n:Nat}:Fed st wt b n (.error n:RI α):=⟨kA2 _,gd_nil _⟩
theorem zAH {α:Type} {wt:α→Nat} {b n:Nat} {r:RI α} (hk:(st n).1≠-1) (h:Fed st wt (b+1) (n+1) r):Fed st wt b n r:=by
 cases r with
 | error j=>exact⟨kDF,gd_app (gd_one hk) h.2⟩
 | ok p=>exact⟨kDF,gd_app (gd_one hk) h.2.1,by have:=h.2.2;omega⟩
theorem zAP {α β:Type} {wa:α→Nat} {wb:β→Nat} {b c n:Nat} {r:RI α} {f:α→Nat→RI β} (h:Fed st wa b n r) (hf:∀x m,n≤m→wa x+n≤b+m→Fed st wb (c+m-n) m (f x m)):Fed st wb c n (zBE r f):=by
 cases r with
 | error j=>exact h
 | ok p =>
  have h1:=hf p.1 p.2 h.1 h.2.2;show Fed st wb c n (f p.1 p.2);have hn:=h.1
  cases hr:f p.1 p.2 with
  | error j=>rw[hr] at h1;exact⟨kAz hn h1.1,gd_app h.2.1 h1.2⟩
  | ok q=>rw[hr] at h1;exact⟨kAz hn h1.1,gd_app h.2.1 h1.2.1,by have:=h1.2.2;omega⟩
theorem zBt {α:Type} {wt:α→Nat} {b n:Nat} {c:Prop} [Decidable c] {r s:RI α} (h1:c→Fed st wt b n r) (h2:¬c→Fed st wt b n s):Fed st wt b n (if c then r else s):=by
 by_cases h:c
 ·rw[kAb h];exact h1 h
 ·rw[kAa h];exact h2 h
theorem zBq {n:Nat} {x:ByteArray} (h:skI st n x=true):(st n).1≠-1:=by
 intro e;unfold skI at h;rw[e] at h;simp at h
theorem zG1 {n:Nat} {k:Int} (h:(st n).1=k) (hk:k≠-1):(st n).1≠-1:=by rw[h];exact hk
theorem node1 (op:Int) (num:S28) (nm:ByteArray) (sz:Int) (x:S31):zAm ⟨op,num,nm,sz,[x]⟩=zAm x+1:=by rw[zBv];simp[zAK]
theorem node0 (op:Int) (num:S28) (nm:ByteArray) (sz:Int):zAm ⟨op,num,nm,sz,[]⟩=1:=by rw[zBv];simp[zAK]
theorem node2 (op:Int) (num:S28) (nm:ByteArray) (sz:Int) (x y:S31):zAm ⟨op,num,nm,sz,[x,y]⟩=zAm x+zAm y+1:=by rw[zBv];simp[zAK]
theorem nodeT (op:Int) (x y:S31):zAm (twoX op x y)=zAm x+zAm y+1:=node2 _ _ _ _ _ _
end
section
variable (st:Nat→Tk) (chk:S28→Int) (L:Nat)
theorem zGc {α:Type} (wt:α→Nat) (cl:ByteArray) (x:α) (b n:Nat) (h:wt x≤b):Fed st wt b n (zEO st cl x n):=zBt (fun c=>zAH (zBq c) (zC0 kCW)) (fun _=>zCW)
theorem num_fed (lo hi:Int) (b n:Nat):Fed st (fun _=>0) b n (numI st lo hi n):=by
 unfold numI;split
 ·exact zBt (fun c=>zAH (zG1 c.1 kD0) (zC0 kCW)) (fun _=>zCW)
 ·exact zCW
theorem unit_fed (r:S28) (b n:Nat) (hb:1≤b):Fed st zAm b n (unitI st r n):=zBt (fun c=>zAH (zG1 c kD0) (zC0 kDv)) (fun _=>zC0 kDv)
theorem den_fed (num:ByteArray) (b n:Nat) (hb:1≤b):Fed st zAm b n (denI st chk num n):=zBt (fun c=>zAH (zG1 c.1 kD0) (unit_fed st _ _ _ kCW)) (fun _=>zCW)
theorem lit_fed (num:ByteArray) (b n:Nat) (hb:1≤b):Fed st zAm b n (litI st chk num n):=zBt (fun c=>zAH (zBq c) (den_fed st chk _ _ _ kCW)) (fun _=>unit_fed st _ _ _ hb)
variable {ex:Nat→RI S31} (h:∀n,Fed st zAm 0 n (ex n))
include h
theorem zDV (x:ByteArray) (n:Nat):Fed st zAm 0 n (zDG st ex x n):=zBt (fun c=>zAH (zBq c) ((h _).le kCW)) (fun _=>zCW)
theorem list_fed (cl:ByteArray) (k:Nat):∀(acc:List S31) (b n:Nat),zAK acc≤b→Fed st zAK b n (listI st ex cl k acc n):=by
 induction k with
 | zero=>intro acc b n _;exact zCW
 | succ k ih =>
  intro acc b n hb;refine zAP (h n) fun x m h1 h2=>?_
  have he:zAK (acc++[x])=zAK acc+zAm x:=by rw[zDu];simp[zAK]
  exact zBt (fun c=>zAH (zBq c.2) (ih _ _ _ kCW)) (fun _=>zGc st _ _ _ _ _ kCW)
theorem args_fed (nm:ByteArray) (n:Nat):Fed st zAm 1 n (argsI st ex nm n) :=
 zBt (fun c=>zAH (zBq c) (zC0 kDv)) (fun _=>zAP (list_fed st h _ _ _ 0 _ (by simp[zAK])) fun x m h1 h2=>zC0 (by rw[zBv];simp only;omega))
theorem name_fed (nm:ByteArray) (n:Nat):Fed st zAm 1 n (nameI st ex nm n):=zBt (fun c=>zAH (zBq c) ((args_fed st h _ _).le kCW)) (fun _=>zC0 kDv)
theorem atom_fed (n:Nat):Fed st zAm 0 n (atomI st chk ex n) :=
 zBt (fun c=>zAH (zG1 c kD0) (lit_fed st chk _ _ _ kCW)) (fun _=>zBt (fun c=>zAH (zG1 c kD0) ((name_fed st h _ _).le kCW)) (fun _ =>
  zBt (fun c=>zAH (zBq c) (zAP (h _) fun x m h1 h2=>zGc st _ _ _ _ _ kCW)) (fun _ =>
  zBt (fun c=>zAH (zBq c) (zAP (list_fed st h _ _ _ 0 _ (by simp[zAK])) fun x m h1 h2=>zC0 (by rw[zBv];simp only;omega))) (fun _=>zCW))))
theorem elemLoop_fed (k:Nat):∀(x:S31) (b n:Nat),zAm x≤b→Fed st zAm b n (zCt st ex k x n):=by
 induction k with
 | zero=>intro x b n hb;exact zC0 hb
 | succ k ih =>
  intro x b n hb;exact zBt (fun c=>zAH (zBq c) (zAP (h _) fun y m h1 h2=>zAP (zGc st zAm _ y (zAm y) m (kA2 _)) fun y m h3 h4=>ih _ _ _ kDn)) (fun _=>zC0 hb)
theorem element_fed (n:Nat):Fed st zAm 0 n (zDz st chk L ex n):=zAP (atom_fed st chk h n) fun x m h1 h2=>elemLoop_fed st h L x _ m kCW
omit h in
theorem expo_fed (x:S31) (b n:Nat) (hb:zAm x+1≤b):Fed st zAm b n (expoI st x n) :=
 zBt (fun c=>zAH (zBq c) (zAP (num_fed st _ _ 0 _) fun _ m h1 h2=>zC0 kDw)) (fun _=>zAP (num_fed st _ _ 0 _) fun _ m h1 h2=>zC0 kDw)
omit h in
theorem powTail_fed (x:S31) (b n:Nat) (hb:zAm x≤b):Fed st zAm b n (zF1 st x n):=zBt (fun c=>zAH (zBq c) (expo_fed st x _ _ kCW)) (fun _=>zC0 hb)
theorem zFR (n:Nat):Fed st zAm 0 n (zEA st chk L ex n):=zAP (element_fed st chk L h n) fun x m h1 h2=>powTail_fed st x _ m kCW
theorem prodLoop_fed (k:Nat):∀(x:S31) (b n:Nat),zAm x≤b→Fed st zAm b n (zC4 st chk L ex k x n):=by
 induction k with
 | zero=>intro x b n hb;exact zC0 hb
 | succ k ih =>
  intro x b n hb;exact zBt (fun c=>zAH (zBq c) (zAP (zFR st chk L h _) fun y m h1 h2=>ih _ _ _ kDn)) (fun _ =>
   zBt (fun c=>zAH (zBq c) (zAP (zFR st chk L h _) fun y m h1 h2=>ih _ _ _ kDn)) (fun _=>zC0 hb))
theorem zDt (n:Nat):Fed st zAm 0 n (zCj st chk L ex n):=zAP (zFR st chk L h n) fun x m h1 h2=>prodLoop_fed st chk L h L x _ m kCW
theorem zFJ (k:Nat):∀(x:S31) (b n:Nat),zAm x≤b→Fed st zAm b n (zBS st chk L ex k x n):=by
 induction k with
 | zero=>intro x b n hb;exact zC0 hb
 | succ k ih =>
  intro x b n hb;exact zBt (fun c=>zAH (zBq c) (zAP (zDt st chk L h _) fun y m h1 h2=>ih _ _ _ kDn)) (fun _ =>
   zBt (fun c=>zAH (zBq c) (zAP (zDt st chk L h _) fun y m h1 h2=>ih _ _ _ kDn)) (fun _=>zC0 hb))
theorem sums_fed (n:Nat):Fed st zAm 0 n (sumsI st chk L ex n) :=
 zBt (fun c=>zAH (zBq c) (zAP (zDt st chk L h _) fun x m h1 h2=>zFJ st chk L h L _ _ m kDw)) (fun _=>zAP (zDt st chk L h _) fun x m h1 h2=>zFJ st chk L h L _ _ m kCW)
theorem loop4_fed (op:Int) (nm:ByteArray) (n:Nat):Fed st zAm 1 n (loopI4 st ex op nm n) :=
 zAP (num_fed st _ _ 0 _) fun v m h1 h2=>zAP (zDV st h _ m) fun x j h3 h4=>zC0 kDw
theorem loop3_fed (op:Int) (nm:ByteArray) (n:Nat):Fed st zAm 1 n (loopI3 st ex op nm n):=zBt (fun c=>zAH (zBq c) ((loop4_fed st h _ _ _).le kCW)) (fun _=>zCW)
theorem loop_fed (op:Int) (n:Nat):Fed st zAm 1 n (loopI st ex op n):=zBt (fun c=>zAH (zG1 c kD0) ((loop3_fed st h _ _ _).le kCW)) (fun _=>zCW)
theorem let_fed (n:Nat):Fed st zAm 1 n (lettI st ex n) :=
 zBt (fun c=>zAH (zG1 c kD0) (zAP (zDV st h _ _) fun a m h1 h2=>zAP (zDV st h _ m) fun b j h3 h4=>zC0 (by rw[node2];omega))) (fun _=>zCW)
theorem if_fed (n:Nat):Fed st zAm 1 n (ifI st chk L ex n) :=
 zAP (sums_fed st chk L h n) fun a n1 h1 h2=>zAP (zDV st (sums_fed st chk L h) _ n1) fun b n2 h3 h4=>zAP (zDV st h _ n2) fun c n3 h5 h6=>zAP (zDV st h _ n3) fun d n4 h7 h8 =>
  zC0 (by rw[zBv];simp[zAK];omega)
theorem exprB_fed (n:Nat):Fed st zAm 0 n (exprBI st chk L ex n) :=
 zBt (fun c=>zAH (zBq c) ((let_fed st h _).le kCW)) (fun _=>zBt (fun c=>zAH (zBq c) ((if_fed st chk L h _).le kCW)) (fun _ =>
  zBt (fun c=>zAH (zBq c) ((loop_fed st h _ _).le kCW)) (fun _=>zBt (fun c=>zAH (zBq c) ((loop_fed st h _ _).le kCW)) (fun _=>sums_fed st chk L h _))))
omit h in
theorem expr_fed (k:Nat):∀n,Fed st zAm 0 n (exprI st chk L k n):=by
 induction k with
 | zero=>intro n;exact zCW
 | succ k ih=>intro n;exact exprB_fed st chk L ih n
end
end
theorem wp_scope_again {P:Program} {a:Act} {w:World} {Q:Exit→Act→World→Prop} {x rest:Code} (l:Nat) (J:Nat→Act→World→Prop) (n0:Nat) (hf:findLabel (x.seq ((Code.label l).seq rest)) l=some (Code.skip.seq rest))
  (pass:∀k a w,J k a w→rest.wp P (Exit.jump l (fun a' w'=>∃k',k'<k∧J k' a' w') Q) a w)
  (first:x.wp P (Exit.then (fun a w=>J n0 a w) (Exit.jump l (fun _ _=>False) Q)) a w):(Code.scope (x.seq ((Code.label l).seq rest))).wp P Q a w:=by
 have all:(x.seq ((Code.label l).seq rest)).wp P (Exit.jump l (fun a w=>∃k,J k a w) Q) a w:=by
  refine wp_seq (Code.wp_mono ?_ first);intro e a w h
  cases e with
  | normal =>
   refine wp_seq (wp_label ?_);refine Code.wp_mono ?_ (pass n0 a w h);intro e a w h
   cases e with
   | goto l'=>exact⟨h.1,by obtain⟨_,k',_,hk⟩:=h;exact⟨k',hk⟩⟩
   | _=>exact h
  | goto l'=>exact (h.2:False).elim
  | _=>exact h
 intro b k cs;have hg:gotoIn l (.inScope (x.seq ((Code.label l).seq rest)) :: k)=some (.code (Code.skip.seq rest) :: .inScope (x.seq ((Code.label l).seq rest)) :: k):=by simp[gotoIn,hf]
 have key:∀n a w,J n a w→∃e a' w',Q e a' w'∧Arrives P (lone (b.at a (.code (Code.skip.seq rest) :: .inScope (x.seq ((Code.label l).seq rest)) :: k)) cs w) b k cs e a' w':=by
  intro n
  induction n using Nat.strongRecOn with
  | _ n ih =>
   intro a w hJ;have hw:(Code.skip.seq rest).wp P (Exit.jump l (fun a' w'=>∃k',k'<n∧J k' a' w') Q) a w:=wp_seq (wp_skip (pass n a w hJ));obtain⟨e,a₁,w₁,hq,harr⟩:=hw b (.inScope (x.seq ((Code.label l).seq rest)) :: k) cs
   cases e with
   | normal=>exact⟨.normal,a₁,w₁,hq,Steps.trans harr (.one step_inScope)⟩
   | exit id=>exact⟨.exit id,a₁,w₁,hq,fun k' hk=>harr k' (by simp[exitTo,hk])⟩
   | goto l' =>
    obtain⟨rfl,k',hlt,hJ'⟩:=hq;obtain⟨e₂,a₂,w₂,hq₂,harr₂⟩:=ih k' hlt a₁ w₁ hJ';exact⟨e₂,a₂,w₂,hq₂,.of_steps (harr _ hg) harr₂⟩
   | ret=>exact⟨_,a₁,w₁,hq,harr⟩
   | panic ch=>exact⟨_,a₁,w₁,hq,harr⟩
   | outgrown=>exact⟨_,a₁,w₁,hq,harr⟩
 obtain⟨e,a₁,w₁,hq,harr⟩:=all b (.inScope (x.seq ((Code.label l).seq rest)) :: k) cs
 cases e with
 | normal=>exact⟨.normal,a₁,w₁,hq,.head kCV (Steps.trans harr (.one step_inScope))⟩
 | exit id=>exact⟨.exit id,a₁,w₁,hq,fun k' hk=>.head kCV (harr k' (by simp[exitTo,hk]))⟩
 | goto l' =>
  obtain⟨rfl,k',hJ'⟩:=hq;obtain⟨e₂,a₂,w₂,hq₂,harr₂⟩:=key k' a₁ w₁ hJ';exact⟨e₂,a₂,w₂,hq₂,.of_steps (.head kCV (harr _ hg)) harr₂⟩
 | ret=>exact⟨_,a₁,w₁,hq,.of_steps (.one kCV) harr⟩
 | panic ch=>exact⟨_,a₁,w₁,hq,.of_steps (.one kCV) harr⟩
 | outgrown=>exact⟨_,a₁,w₁,hq,.of_steps (.one kCV) harr⟩
theorem zFM {w:World} {S:Nat→Prop} {v:Value} {xs:List S31} (h:k31.R 31 w 0 S v xs) :
  ∃ao cap inner,v=.slice ao xs.length cap∧xs.length≤cap∧(ao=none→xs.length=0∧cap=0)∧inner.length=xs.length*6∧(∀b,ao=some b→∀j u,inner[j]?=some u→w.cell? (b.add j)=some u)∧Reps (k31.M w 0 S) 6 xs inner:=by
 obtain⟨h0,inner,ho,hr⟩:=h;have hr':Reps (k31.M w 0 S) 6 xs inner:=hr.imp_ (fun _ _ hp=>k31.M_mono (fun k hk=>hk.1) hp);obtain⟨hlen,⟨rfl,hn⟩ | ⟨g,cap,cur,rfl,_,_,hcap,_,_,_⟩⟩:=id ho
 ·refine⟨none,0,inner,by rw[hn],kCW,fun _=>⟨hn,rfl⟩,hlen,fun b hb=>(by cases hb),hr'⟩
 ·refine⟨_,cap,inner,rfl,hcap,fun hb=>(by cases hb),hlen,fun b hb j u hu=>?_,hr'⟩;injection hb with hb;subst hb;exact World.ownsRow.cells ho (g:=g) rfl j u hu
theorem row_append {w w':World} {S:Nat→Prop} {v' v5:Value} {acc:List S31} {x:S31} {inner:List Value} (hr:Reps (k31.M w 0 S) 6 acc inner) (hx:Ex w S x (exV x v5)) (hS:∀k,w.heap.size≤k→S k)
  (ho:w'.ownsRow w.heap.size 31 6 v' (acc.length+1) (inner++[.int .i64 x.f0,.string x.f1.f0,.string x.f1.f1,.string x.f2,.int .i64 x.f3,v5])) (hg:w.grownBy w' none):k31.R 31 w' 0 S v' (acc++[x]):=by
 obtain⟨u,_,_,_,h1,_,_,hM⟩:=hx.cells;obtain rfl:=zCf h1;have hall:=hr.snoc hM rfl;refine⟨fun k hk=>hS k (zED ho k hk),_,?_,hall.imp_ (fun y c hy=>?_)⟩
 ·rw[kAw,List.length_singleton];exact zDW ho (kAI _)
 ·have h1:=k31.M_bound hy;have h2:=k31.M_move (w1:=w') (fun k hk=>hg.block k hk.2.2.1 (fun e=>by cases e)) h1;exact k31.M_mono (fun k hk=>⟨hk.1,fun e=>by have:=zED ho k e.symm;have:=hk.2.2.1;omega⟩) h2
theorem list_facts {w2:World} {S:Nat→Prop} {ao:Option Addr} {n cap:Nat} {acc:List S31} (h:k31.R 31 w2 0 S (.slice ao n cap) acc) (h8:acc.length<8) (x:S31) (v5:Value) (h1:v5.oneCell'=true) :
  ∃inner:List Value,inner.length=acc.length*6 ∧
   (∀b,ao=some b→∀j u,inner[j]?=some u→(w2.alloc (.cells #[.int .i64 x.f0,.string x.f1.f0,.string x.f1.f1,.string x.f2,.int .i64 x.f3,v5] 31)).cell? (b.add j)=some u) ∧
   (∀j u,[.int .i64 x.f0,.string x.f1.f0,.string x.f1.f1,.string x.f2,.int .i64 x.f3,v5][j]?=some u→(w2.alloc (.cells #[.int .i64 x.f0,.string x.f1.f0,.string x.f1.f1,.string x.f2,.int .i64 x.f3,v5] 31)).cell? ((⟨w2.heap.size,0,none⟩:Addr).add j)=some u) ∧
   (∀u ∈ [.int .i64 x.f0,.string x.f1.f0,.string x.f1.f1,.string x.f2,.int .i64 x.f3,v5],u.oneCell'=true) ∧
   (ao=none→acc.length=0∧acc.length=0)∧acc.length+1≤maxLen∧(acc.length+1)*88≤140737488355328∧Reps (k31.M (w2.alloc (.cells #[.int .i64 x.f0,.string x.f1.f0,.string x.f1.f1,.string x.f2,.int .i64 x.f3,v5] 31)) 0 S) 6 acc inner:=by
 obtain⟨ao',cap',inner,he,hcap,hao,hin,hol,hrep⟩:=zFM h;injection he with he1 he2 he3;subst he1;refine⟨inner,hin,fun b hb j u hu=>?_,fun j u hu=>?_,fun u hu=>?_,fun hb=>⟨(hao hb).1,(hao hb).1⟩,by simp only[maxLen];omega,kCW,hrep.imp_ (fun _ _ hp=>Kd.M_below hp ((kA3 _ _).alloc (kA2 _) _))⟩
 ·have:=hol b hb j u hu;rw[kBy _ _ _ (kAG w2 _ this)];exact this
 ·have hn:=zA4 w2 (.cells #[.int .i64 x.f0,.string x.f1.f0,.string x.f1.f1,.string x.f2,.int .i64 x.f3,v5] 31);have hj:j<6:=by
   have:=kAK.1 hu;obtain⟨h,_⟩:=this;exact h
  rw[zCw];have e:=zA1 hn j
  try simp only[kAL]
  rw[e];rw[← hu];simp
 ·simp only[kAU,kBD,kCQ] at hu;rcases hu with rfl | rfl | rfl | rfl | rfl | rfl
  all_goals first | rfl | exact h1
def zDD (w:World) (R:Nat) (ts:List S47) (en now:Nat):Except Int (List S31×Nat)→Ending→World→Prop
 | .ok (xs,n),e,w'=>now<n∧n≤ts.length∧∃v,e=.returned v∧k31.R 31 w' 0 (From w.heap.size) v xs∧Took w R ts n en w'
 | .error p,e,w'=>e=zAk p∧w.grownBy w' (some R)
structure Gat (W0:World) (R B:Nat) (ts:List S47) (en:Nat) (w wr:World) (acc:List S31) (n:Nat) (v:Value):Prop where
 st:St W0 R B ts en n wr
 took:Took w R ts n en wr
 val:k31.R 31 wr 0 (From w.heap.size) v acc
theorem Gat.below {W0:World} {R B:Nat} {ts:List S47} {en:Nat} {w wr w1:World} {acc:List S31} {n:Nat} {v:Value} (G:Gat W0 R B ts en w wr acc n v) (hb:Below wr.heap.size wr w1):Gat W0 R B ts en w w1 acc n v :=
 ⟨G.st.below hb,G.took.below hb,Kd.R_below G.val hb⟩
theorem Gat.go {W0:World} {R B:Nat} {ts:List S47} {en:Nat} {w wr w1:World} {acc:List S31} {n n1:Nat} {v:Value} (E:Env W0 R B ts) (hR:R<w.heap.size) (G:Gat W0 R B ts en w wr acc n v) (k:Took wr R ts n1 en w1) (hn:n1≤ts.length):Gat W0 R B ts en w w1 acc n1 v :=
 ⟨G.st.took E k hn,G.took.trans k,Kd.R_grown G.val k.grown (fun j hj e=>by injection e with e;simp only[From] at hj;omega)⟩
theorem info31:(Tryz.prog.info? 31).map (fun i=>(i.zero,i.size,i.bytes))=some (some (.agg #[.int .i64 0,.string ⟨#[]⟩,.string ⟨#[]⟩,.string ⟨#[]⟩,.int .i64 0,.slice none 0 0]),6,88):=kCX
theorem list_walk (W0:World) (R B:Nat) (ts:List S47) (en:Nat) (ex:Nat→PR) (cl:ByteArray) (m now:Nat) (w:World) (E:Env W0 R B ts) (h:St W0 R B ts en now w) (hm:m+1≤now)
  (hex:Pars W0 R B ts en 134 ex (m+1)) :
  Calls Tryz.prog 279 #[.pointer (some ⟨R,0,none⟩),.string cl] w (zDD w R ts en now (zF7 ts en ex cl 8 [] now)):=by
 have few:=E.few;have hRw:=h.rdr.lt;have HX:=kA1 hex;have H:=kA1 h;generalize hresL:zF7 ts en ex cl 8 [] now=res;have HresL:=kA1 hresL;clear hex h hresL;go_enter Tryz.func279,Tryz.ntmps279;go_wp2_with fail;refine wp_scope_again 0 (fun k a' w'=>∃(acc:List S31) (n:Nat) (vl:Value) (u6 u7 u8 u9 u10 u11 u12 u13 u14 u15 u16 u17 u18 u19 u20 u21 u22 u23 u24 u25 u26 u27 u28 u29 u30 u31 u32 u33 u34:Value),a'={ tmps:=#[.pointer (some ⟨R,0,none⟩),.string cl,undef,undef,.slice none 0 0,vl,u6,u7,u8,u9,u10,u11,u12,u13,u14,u15,u16,u17,u18,u19,u20,u21,u22,u23,u24,u25,u26,u27,u28,u29,u30,u31,u32,u33,u34],defers:=[] } ∧
  k+acc.length=8∧0<k∧now≤n∧Gat W0 R B ts en w w' acc n vl∧Hid (zF7 ts en ex cl k acc n=res)) 8 rfl ?pass ?first
 case first =>
  go_wp2_with fail;refine⟨[],now,_,_,_,_,_,_,_,_,_,_,_,_,_,_,_,_,_,_,_,_,_,_,_,_,_,_,_,_,_,_,rfl,rfl,kCW,kCW,⟨H.out,Took.refl H.out.rdr,Kd.R_nil _ _ _ _ _⟩,HresL⟩
 case pass =>
  rintro k a' wr⟨acc,n,vl,u6,u7,u8,u9,u10,u11,u12,u13,u14,u15,u16,u17,u18,u19,u20,u21,u22,u23,u24,u25,u26,u27,u28,u29,u30,u31,u32,u33,u34,rfl,hk8,hk0,hnn,G,Hres⟩;clear HresL;obtain⟨ao,cap,inner,rfl,hcap,hao,hin,hol,hrep⟩:=zFM G.val;obtain⟨k,rfl⟩:∃j,k=j+1:=⟨k-1,kCW⟩;have Gd:=G.below ((kA3 _ wr).drew);have hp1:=HX.out n _ kCW Gd.st;obtain⟨-,-,hR3,-,hRl⟩:=Gd.st.rdr.cells
  cases hc:ex n with
  | error p =>
   rw[hc] at hp1;unfold zAi zAk at hp1;have Hres':Hid (res=.error p):=by
    have:=Hres.out;unfold zF7 at this;rw[hc] at this;exact kA1 this.symm
   clear hc;go_wp2_with fail;refine kAY (S:=(fun w'=>w'.cell? ⟨R,3,none⟩=some (.func (.func 134) #[] #[]))) kCX hR3 (fun hHeld=>?_);refine kAu (i:=0) (v:=?v0c1) rfl kCX kCX kCX (fun _ _ _ h=>h) (Or.inl ⟨kD9,?hy0c1⟩) kD3 ?rest0c1
   case hy0c1=>(intro w hSw;(try dsimp only at hSw);go_simp;try (with_reducible rfl))
   try simp only[Act.put,kA0,List.set_cons_zero,List.set_cons_succ]
   refine kAu (i:=1) (v:=?v1c2) rfl kCX kCX kCX (fun _ _ _ h=>h) (Or.inl ⟨kD9,?hy1c2⟩) kD3 ?rest1c2
   case hy1c2=>(intro w hSw;(try dsimp only at hSw);go_simp;try (with_reducible rfl))
   try simp only[Act.put,kA0,List.set_cons_zero,List.set_cons_succ]
   refine kAu (i:=2) (v:=?v2c3) rfl kCX kCX kCX (fun _ _ _ h=>h) (Or.inl ⟨kD9,?hy2c3⟩) kD3 ?rest2c3
   case hy2c3=>(intro w hSw;(try dsimp only at hSw);go_simp;try (with_reducible rfl))
   try simp only[Act.put,kA0,List.set_cons_zero,List.set_cons_succ]
   refine kAu (i:=3) (v:=?v3c4) rfl kCX kCX kCX (fun _ _ _ h=>h) (Or.inl ⟨kD9,?hy3c4⟩) kD3 ?rest3c4
   case hy3c4=>(intro w hSw;(try dsimp only at hSw);go_simp;try (with_reducible rfl))
   try simp only[Act.put,kA0,List.set_cons_zero,List.set_cons_succ]
   refine kAu (i:=4) (v:=?v4c5) rfl kCX kCX kCX (fun _ _ _ h=>h) (Or.inl ⟨kD9,?hy4c5⟩) kD3 ?rest4c5
   case hy4c5=>(intro w hSw;(try dsimp only at hSw);go_simp;try (with_reducible rfl))
   try simp only[Act.put,kA0,List.set_cons_zero,List.set_cons_succ]
   refine kAu (i:=5) (v:=?v5c6) rfl kCX kCX kCX (fun _ _ _ h=>h) (Or.inl ⟨kD9,?hy5c6⟩) kD3 ?rest5c6
   case hy5c6=>(intro w hSw;(try dsimp only at hSw);go_simp;try (with_reducible rfl))
   try simp only[Act.put,kA0,List.set_cons_zero,List.set_cons_succ]
   refine kAu (i:=6) (v:=?v6c7) rfl kCX kCX kCX (fun _ _ _ h=>h) (Or.inl ⟨kD9,?hy6c7⟩) kD3 ?rest6c7
   case hy6c7=>(intro w hSw;(try dsimp only at hSw);go_simp;try (with_reducible rfl))
   try simp only[Act.put,kA0,List.set_cons_zero,List.set_cons_succ]
   refine kAu (i:=7) (v:=?v7c8) rfl kCX kCX kCX (fun _ _ _ h=>h) (Or.inl ⟨kD9,?hy7c8⟩) kD3 ?rest7c8
   case hy7c8=>(intro w hSw;(try dsimp only at hSw);go_simp;try (with_reducible rfl))
   try simp only[Act.put,kA0,List.set_cons_zero,List.set_cons_succ]
   refine kAu (i:=8) (v:=?v8c9) rfl kCX kCX kCX (fun _ _ _ h=>h) (Or.inl ⟨kD9,?hy8c9⟩) kD3 ?rest8c9
   case hy8c9=>(intro w hSw;(try dsimp only at hSw);go_simp;try (with_reducible rfl))
   try simp only[Act.put,kA0,List.set_cons_zero,List.set_cons_succ]
   refine kAu (i:=9) (v:=?v9c10) rfl kCX kCX kCX (fun _ _ _ h=>h) (Or.inl ⟨kD9,?hy9c10⟩) kD3 ?rest9c10
   case hy9c10=>(intro w hSw;(try dsimp only at hSw);go_simp;try (with_reducible rfl))
   try simp only[Act.put,kA0,List.set_cons_zero,List.set_cons_succ]
   refine kAu (i:=10) (v:=?v10c11) rfl kCX kCX kCX (fun _ _ _ h=>h) (Or.inl ⟨kD9,?hy10c11⟩) kD3 ?rest10c11
   case hy10c11=>(intro w hSw;(try dsimp only at hSw);go_simp;try (with_reducible rfl))
   try simp only[Act.put,kA0,List.set_cons_zero,List.set_cons_succ]
   refine kBM (rs:=[11]) kCX kCY ?_;refine kBC rfl (fun K hK=>?_) kBG;go_simp;go_wp2_with (go_at_call 134;refine hp1.mono ?_;rintro e w2 ⟨rfl,hg2⟩);rw[Hres'.out];exact⟨rfl,rfl,kA9 Gd.took.grown hg2⟩
  | ok r =>
   obtain⟨x,n1⟩:=r;rw[hc] at hp1;unfold zAi at hp1;have Hres1:Hid ((if (acc++[x]).length<8∧sk ts en n1 ⟨#[44]⟩=true then zF7 ts en ex cl k (acc++[x]) (n1+1) else if sk ts en n1 cl=true then .ok (acc++[x],n1+1) else .error (atP ts en n1))=res):=by
    have:=Hres.out;unfold zF7 at this;rw[hc] at this;exact kA1 this
   clear hc Hres;obtain⟨i0,hi,hzz⟩:=kBI.1 info31;simp only[kBQ] at hzz;obtain⟨hz0,hz1,hz2⟩:=hzz;have hacc8:acc.length<8:=kCW
   go_wp2_with fail
   go_region_law ((first
    | (refine step_append_grows rfl (.tmp 11) (.tmp 18) 29 rfl 31 i0 _ 6 88 Tryz.underlying29 hi hz0 hz1 hz2 rfl ?_ ao acc.length acc.length inner3 rfl ?_ hin3 hol3 ⟨w2.heap.size,0,none⟩ 1 1 [.int .i64 x.f0,.string x.f1.f0,.string x.f1.f1,.string x.f2,.int .i64 x.f3,.slice A5 n5 c5] rfl rfl hnew3 hone3 ?_ ?_ ?_ ?_;(· decide);(· exact hao3);(· omega);(· exact hsm1);(· exact hsm2);intro v4 w4 ho4 hg4)
    | (go_simp;go_at_call 134;refine hp1.mono ?_;rintro e w2 ⟨hn1,hn2,vy,rfl,hy,hk2⟩;obtain⟨v5,A5,n5,c5,rfl,rfl,_,_⟩:=hy.cells;obtain⟨inner3,hin3,hol3,hnew3,hone3,hao3,hsm1,hsm2,hr3⟩:=list_facts (Gd.go E hRw hk2 hn2).val kCW x (.slice A5 n5 c5) rfl;unfold exV)))
   all_goals
    have hb4:=(kA3 _ _).grown hg4 (kA2 _) (fun j e=>by cases e);have G2:=Gd.go E hRw hk2 hn2;have G3:=G2.below ((kA3 _ w2).alloc (kA2 _) (.cells #[.int .i64 x.f0,.string x.f1.f0,.string x.f1.f1,.string x.f2,.int .i64 x.f3,.slice A5 n5 c5] 31));have hws:=Gd.took.grown.size;have hws2:=G3.took.grown.size;have val4:=row_append hr3 ((hy.mono (fun j hj=>kAz hws hj)).below ((kA3 _ w2).alloc (kA2 _) _)) (fun j hj=>kAz hws2 hj) ho4 hg4;have G4:Gat W0 R B ts en w w4 (acc++[x]) n1 v4:=⟨G3.st.below hb4,G3.took.below hb4,val4⟩;obtain⟨ao4,cap4,inner4,rfl,-,-,-,-,-⟩:=zFM val4;have hlen:(acc++[x]).length=acc.length+1:=kCY
    rw[hlen] at G4;have hn1l:=hn2;have hnn1:now<n1:=kCW
    clear G3 G2 hb4 val4 ho4 hg4 hr3 hin3 hol3 hnew3 hone3 hao3 hsm1 hsm2 hws hws2 hp1 hrep hol hao hin hcap hy hk2 Gd G;generalize acc++[x]=acc1 at *;by_cases h8:acc1.length<8
    ·have h8i:(acc1.length:Int)<8:=kCW
     cases hs:sk ts en n1 ⟨#[44]⟩ with
     | true =>
      have hlt:=zAw hs;have hsk:=zAF R ts n1 en ⟨#[44]⟩ w4 G4.st.rdr few hs;have Hr:=Hres1.out;rw[kAb ⟨h8,hs⟩] at Hr;have Hr:=kA1 Hr;clear Hres1;go_wp2_with (go_at_call 156;refine hsk.mono ?_;rintro e w6 ⟨rfl,hk6⟩);have G6:=G4.go E hRw hk6 hlt
      go_step3
      refine⟨rfl,k,kCW,acc1,n1+1,_,_,_,_,_,_,_,_,_,_,_,_,_,_,_,_,_,_,_,_,_,_,_,_,_,_,_,_,_,_,rfl,kCW,kCW,kCW,G6,Hr⟩
     | false =>
      have hsk:=zB1 R ts n1 en ⟨#[44]⟩ w4 G4.st.rdr hn1l hs;have Hr:=Hres1.out;rw[kAa (fun h=>by rw[hs] at h;cases h.2)] at Hr;clear Hres1
      cases hcl:sk ts en n1 cl with
      | true =>
       rw[hcl,kAb rfl] at Hr;have Hr:=kA1 Hr;have hltc:=zAw hcl;go_wp2_with (first
        | (go_at_call 156;refine hsk.mono ?_;rintro e w6 ⟨rfl,hk6⟩;have G6:=G4.go E hRw hk6 hn1l)
        | (go_at_call 158;refine (zBR R ts n1 en cl _ G6.st.rdr few hcl).mono ?_;rintro e w7 ⟨rfl,hk7⟩))
       have G7:=G6.go E hRw hk7 hltc
       try simp only[Exit.jump]
       go_ret;rw[← Hr.out];exact⟨kCW,hltc,_,rfl,G7.val,G7.took⟩
      | false =>
       rw[hcl,kAa kD0] at Hr;have Hr:=kA1 Hr;have htn:=fun w' hr=>zCx R ts n1 en cl w' hr hn1l hcl
       unfold zAk at htn;have Htn:=kA1 htn;clear htn;go_wp2_with (first
        | (go_at_call 156;refine hsk.mono ?_;rintro e w6 ⟨rfl,hk6⟩;have G6:=G4.go E hRw hk6 hn1l)
        | (go_at_call 158;refine (Htn.out _ G6.st.rdr).mono ?_;rintro e w7 ⟨rfl,hb7⟩))
       try simp only[Exit.jump]
       rw[← Hr.out];exact⟨rfl,rfl,kAi G6.took.grown hb7⟩
    ·have h8i:¬(acc1.length:Int)<8:=kCW
     have Hr:=Hres1.out;rw[kAa (fun h=>h8 h.1)] at Hr;clear Hres1;have G6:=G4
     cases hcl:sk ts en n1 cl with
     | true =>
      rw[hcl,kAb rfl] at Hr;have Hr:=kA1 Hr;have hltc:=zAw hcl;go_wp2_with (first
       | (go_at_call 158;refine (zBR R ts n1 en cl _ G6.st.rdr few hcl).mono ?_;rintro e w7 ⟨rfl,hk7⟩))
      have G7:=G6.go E hRw hk7 hltc
      try simp only[Exit.jump]
      go_ret;rw[← Hr.out];exact⟨kCW,hltc,_,rfl,G7.val,G7.took⟩
     | false =>
      rw[hcl,kAa kD0] at Hr;have Hr:=kA1 Hr;have htn:=fun w' hr=>zCx R ts n1 en cl w' hr hn1l hcl
      unfold zAk at htn;have Htn:=kA1 htn;clear htn;go_wp2_with (first
       | (go_at_call 158;refine (Htn.out _ G6.st.rdr).mono ?_;rintro e w7 ⟨rfl,hb7⟩))
      try simp only[Exit.jump]
      rw[← Hr.out];exact⟨rfl,rfl,kAi G6.took.grown hb7⟩
structure Mid (W0:World) (R B:Nat) (ts:List S47) (en:Nat) (w wr:World) (n:Nat):Prop where
 st:St W0 R B ts en n wr
 took:Took w R ts n en wr
 res:wr.heap[w.heap.size]?=some zO
theorem Mid.below {W0:World} {R B:Nat} {ts:List S47} {en:Nat} {w wr w1:World} {n:Nat} (G:Mid W0 R B ts en w wr n) (hb:Below wr.heap.size wr w1):Mid W0 R B ts en w w1 n :=
 ⟨G.st.below hb,G.took.below hb,zAb hb G.res⟩
theorem Mid.alloc {W0:World} {R B:Nat} {ts:List S47} {en:Nat} {w wr:World} {n:Nat} (G:Mid W0 R B ts en w wr n) (o:Obj):Mid W0 R B ts en w (wr.alloc o) n:=G.below ((kA3 _ _).alloc (kA2 _) _)
theorem Mid.go {W0:World} {R B:Nat} {ts:List S47} {en:Nat} {w wr w1:World} {n n1:Nat} (E:Env W0 R B ts) (hR:R<w.heap.size) (G:Mid W0 R B ts en w wr n) (k:Took wr R ts n1 en w1) (hn:n1≤ts.length):Mid W0 R B ts en w w1 n1 :=
 ⟨G.st.took E k hn,G.took.trans k,k.blk G.res (kAq hR)⟩
theorem Mid.start {W0:World} {R B:Nat} {ts:List S47} {en:Nat} {w:World} {n:Nat} (h:St W0 R B ts en n w):Mid W0 R B ts en w (w.alloc zO) n :=
 ⟨h.below ((kA3 _ _).alloc (kA2 _) _),(Took.refl h.rdr).alloc _,zA4 _ _⟩
theorem Mid.done {W0:World} {R B:Nat} {ts:List S47} {en:Nat} {w wr:World} {now n:Nat} {x:S31} {v:Value} (G:Mid W0 R B ts en w wr n) (hR:R<w.heap.size) (hx:Ex wr (fun k=>w.heap.size<k) x (exV x v)) (hn:now<n) (v0 v1 v2 v3 v4 v5:Value) :
  zAi w R ts en now (.ok (x,n)) (.returned (exV x v)) (set6 wr w.heap.size v0 v1 v2 v3 v4 v5) :=
 ⟨hn,G.st.pos,_,rfl,(hx.set6 (fun _ hk=>kAq hk) _ _ _ _ _ _).mono (fun _ hk=>kAN hk),G.took.set6 G.res (kAq hR) (kA2 _) _ _ _ _ _ _⟩
theorem Mid.lt {W0:World} {R B:Nat} {ts:List S47} {en:Nat} {w wr:World} {n:Nat} (G:Mid W0 R B ts en w wr n):w.heap.size<wr.heap.size:=zA5 G.res
theorem Mid.set5 {W0:World} {R B:Nat} {ts:List S47} {en:Nat} {w wr:World} {n:Nat} {X:Nat} {cs:Array Value} (E:Env W0 R B ts) (hR:R<w.heap.size) (G:Mid W0 R B ts en w wr n) (hXR:X≠R) (hX:w.heap.size<X) (hb:wr.heap[X]?=some (.cells cs 31 (0,0))) (u:Value) :
  Mid W0 R B ts en w (wr.setCell ⟨X,5,none⟩ u) n:=by
 have hlow:=G.st.low.size;have hk:=G.took.far hb hXR (kAN hX) 5 u;exact⟨⟨hk.rdr,G.st.low.setCell (p:=⟨X,5,none⟩) (by have:=E.own;simp only;omega) _,by rw[kAM];exact G.st.base,G.st.pos⟩,hk,(kA7 _ _ _ _ kDg).trans G.res⟩
theorem atom_lit (W0:World) (R B:Nat) (ts:List S47) (en now:Nat) (w:World) (E:Env W0 R B ts) (h:St W0 R B ts en now w) (h2:(tokP ts en now).f0=2) (r:PR) (hlit:∀w,St W0 R B ts en now w→Calls Tryz.prog 278 #[.pointer (some ⟨R,0,none⟩)] w (zAi w R ts en now r)) :
  Calls Tryz.prog 252 #[.pointer (some ⟨R,0,none⟩)] w (zAi w R ts en now (r)):=by
 have few:=E.few;have hRw:=h.rdr.lt;have M0:=Mid.start h;have hpk:=zBc R ts now en (w.alloc zO) M0.st.rdr h.pos;unfold tokV at hpk;have HL:=kA1 hlit;have h2':((tokP ts en now).f0==2)=true:=kDm
 generalize tokP ts en now=t at *;clear hlit h h2;have hfd:=zBO t.f0 t.f2 t.f1;go_enter Tryz.func252,Tryz.ntmps252;go_wp2_with fail;refine hpk.mono ?_;rintro e w1 ⟨rfl,hb1⟩;have M1:=(M0.below hb1).alloc (tokO t);have T1:=zA4 w1 (tokO t);have hl:=HL.out _ M1.st
 cases r with
 | error p =>
  unfold zAi zAk at hl;go_wp2_with (go_at_call 278;refine hl.mono ?_;rintro e w2 ⟨rfl,hg⟩);exact⟨rfl,rfl,kA9 M1.took.grown hg⟩
 | ok r =>
  obtain⟨x,n⟩:=r;unfold zAi at hl;go_wp2_with fail;refine hl.mono ?_;rintro e w2 ⟨hn1,hn2,v,rfl,hx,hk⟩;obtain⟨v5,A5,n5,c5,rfl,rfl,_,_⟩:=hx.cells;unfold exV;have M2:=M1.go E hRw hk hn2;have hx2:=hx.mono (fun k hk=>kBi M1.lt hk);obtain⟨⟨q0,q1,q2,q3,q4,q5⟩,⟨f0,f1,f2,f3,f4,f5⟩,xl2⟩:=zA9 M2.res;go_wp2;refine kAg (zAe Tryz.results252 _ _ w.heap.size 31 _ (0,0) _ rfl (fin6 _ _ _ _ _ _ M2.res) Tryz.underlying31 rfl zB6) rfl (M2.done hRw hx2 kCW _ _ _ _ _ _)
theorem atom_ref (W0:World) (R B:Nat) (ts:List S47) (en now:Nat) (w:World) (E:Env W0 R B ts) (h:St W0 R B ts en now w) (h0:(tokP ts en now).f0=0) (hsk:sk ts en (now+1) ⟨#[40]⟩=false) :
  Calls Tryz.prog 252 #[.pointer (some ⟨R,0,none⟩)] w (zAi w R ts en now (.ok (⟨1,z28,(tokP ts en now).f1,0,[]⟩,now+1))):=by
 have few:=E.few;have hRw:=h.rdr.lt;have M0:=Mid.start h;have hpk:=zBc R ts now en (w.alloc zO) M0.st.rdr h.pos;unfold tokV at hpk;have Hs:=kA1 (fun w' hr=>zB1 R ts (now+1) en ⟨#[40]⟩ w' hr (zBL h0 kD0) hsk);clear hsk;have hlt:=zBL h0 kD0;have h0':((tokP ts en now).f0==0)=true:=by rw[kAA];exact h0
 have h2':((tokP ts en now).f0==2)=false:=by rw[kAj,h0];decide
 generalize tokP ts en now=t at *;clear h h0;have hfd:=zBO t.f0 t.f2 t.f1;go_enter Tryz.func252,Tryz.ntmps252;go_wp2_with fail;refine hpk.mono ?_;rintro e w1 ⟨rfl,hb1⟩;have M1:=(M0.below hb1).alloc (tokO t);have T1:=zA4 w1 (tokO t);obtain⟨c1,f1,c3,c4,lt⟩:=(M0.below hb1).st.rdr.cells;have hb1R:R<w1.heap.size:=kBi M0.st.rdr.lt hb1.size;have K:=Took.next M1.st.rdr (kA3 _ _)
 have M2:=M1.go E hRw K hlt;have T2:=K.blk T1 (kAq hb1R);simp only[kB3,hb1R] at M2 T2;clear K;have hs:=Hs.out _ M2.st.rdr;go_wp2_with fail;refine hs.mono ?_;rintro e w3 ⟨rfl,hk3⟩;have M3:=M2.go E hRw hk3 hlt;have T3:=hk3.blk T2 (kAq hb1R);have d1:=zA1 T3 1;obtain⟨⟨q0,q1,q2,q3,q4,q5⟩,⟨y0,y1,y2,y3,y4,y5⟩,xl2⟩:=zA9 M3.res;go_wp2;refine kAg (zAe Tryz.results252 _ _ w.heap.size 31 _ (0,0) _ rfl (fin6 _ _ _ _ _ _ M3.res) Tryz.underlying31 rfl zB6) rfl (M3.done hRw (Ex.leaf ⟨1,z28,t.f1,0,[]⟩ rfl) kCW _ _ _ _ _ _)
theorem atom_call0 (W0:World) (R B:Nat) (ts:List S47) (en now:Nat) (w:World) (E:Env W0 R B ts) (h:St W0 R B ts en now w) (h0:(tokP ts en now).f0=0) (hsk:sk ts en (now+1) ⟨#[40]⟩=true) (hs2:sk ts en (now+2) ⟨#[41]⟩=true) :
  Calls Tryz.prog 252 #[.pointer (some ⟨R,0,none⟩)] w (zAi w R ts en now (.ok (⟨14,z28,(tokP ts en now).f1,0,[]⟩,now+3))):=by
 have few:=E.few;have hRw:=h.rdr.lt;have M0:=Mid.start h;have hpk:=zBc R ts now en (w.alloc zO) M0.st.rdr h.pos;unfold tokV at hpk;have hlt1:=zAw hsk;have hlt2:=zAw hs2;have Hs:=kA1 (fun w' hr=>zAF R ts (now+1) en ⟨#[40]⟩ w' hr few hsk);have Hs2:=kA1 (fun w' hr=>zAF R ts (now+1+1) en ⟨#[41]⟩ w' hr few hs2);clear hsk hs2;have hlt:=zBL h0 kD0;have h0':((tokP ts en now).f0==0)=true:=by rw[kAA];exact h0
 have h2':((tokP ts en now).f0==2)=false:=by rw[kAj,h0];decide
 generalize tokP ts en now=t at *;clear h h0;have hfd:=zBO t.f0 t.f2 t.f1;go_enter Tryz.func252,Tryz.ntmps252;go_wp2_with fail;refine hpk.mono ?_;rintro e w1 ⟨rfl,hb1⟩;have M1:=(M0.below hb1).alloc (tokO t);have T1:=zA4 w1 (tokO t);obtain⟨c1,f1,c3,c4,lt⟩:=(M0.below hb1).st.rdr.cells;have hb1R:R<w1.heap.size:=kBi M0.st.rdr.lt hb1.size;have K:=Took.next M1.st.rdr (kA3 _ _)
 have M2:=M1.go E hRw K hlt;have T2:=K.blk T1 (kAq hb1R);simp only[kB3,hb1R] at M2 T2;clear K;have hs:=Hs.out _ M2.st.rdr;go_wp2_with fail;refine hs.mono ?_;rintro e w3 ⟨rfl,hk3⟩;have M3:=M2.go E hRw hk3 hlt1;have T3:=hk3.blk T2 (kAq hb1R);have d1:=zA1 T3 1;have M4:=M3.alloc (.cells #[.int .i64 14,.string ⟨#[]⟩,.string ⟨#[]⟩,.string t.f1,.int .i64 0,.slice none 0 0] 31);have X4:=zA4 w3 (.cells #[.int .i64 14,.string ⟨#[]⟩,.string ⟨#[]⟩,.string t.f1,.int .i64 0,.slice none 0 0] 31);have hs2:=Hs2.out _ M4.st.rdr;go_wp2_with fail;refine hs2.mono ?_;rintro e w5 ⟨rfl,hk5⟩;have M5:=M4.go E hRw hk5 hlt2;have X5:=hk5.blk X4 (kAq M3.st.rdr.lt);obtain⟨⟨p0,p1,p2,p3,p4,p5⟩,-,xl⟩:=zA9 X5;obtain⟨⟨q0,q1,q2,q3,q4,q5⟩,⟨y0,y1,y2,y3,y4,y5⟩,xl2⟩:=zA9 M5.res;go_wp2;refine kAg (zAe Tryz.results252 _ _ w.heap.size 31 _ (0,0) _ rfl (fin6 _ _ _ _ _ _ M5.res) Tryz.underlying31 rfl zB6) rfl (M5.done hRw (Ex.leaf ⟨14,z28,t.f1,0,[]⟩ rfl) kCW _ _ _ _ _ _)
theorem atom_call (W0:World) (R B:Nat) (ts:List S47) (en now:Nat) (w:World) (E:Env W0 R B ts) (h:St W0 R B ts en now w) (h0:(tokP ts en now).f0=0) (hsk:sk ts en (now+1) ⟨#[40]⟩=true) (hs2:sk ts en (now+2) ⟨#[41]⟩=false) (r:Except Int (List S31×Nat)) (hlist:∀w',St W0 R B ts en (now+2) w'→Calls Tryz.prog 279 #[.pointer (some ⟨R,0,none⟩),.string ⟨#[41]⟩] w' (zDD w' R ts en (now+2) r)) :
  Calls Tryz.prog 252 #[.pointer (some ⟨R,0,none⟩)] w (zAi w R ts en now (match (generalizing:=false) r with | .error p=>.error p | .ok (xs,n)=>.ok (⟨14,z28,(tokP ts en now).f1,0,xs⟩,n))):=by
 have few:=E.few;have hRw:=h.rdr.lt;have M0:=Mid.start h;have hpk:=zBc R ts now en (w.alloc zO) M0.st.rdr h.pos;unfold tokV at hpk;have hlt1:=zAw hsk;have Hs:=kA1 (fun w' hr=>zAF R ts (now+1) en ⟨#[40]⟩ w' hr few hsk);have Hs2:=kA1 (fun w' hr=>zB1 R ts (now+1+1) en ⟨#[41]⟩ w' hr hlt1 hs2);have HL:=kA1 hlist;clear hsk hs2 hlist;have hlt:=zBL h0 kD0;have h0':((tokP ts en now).f0==0)=true:=by rw[kAA];exact h0
 have h2':((tokP ts en now).f0==2)=false:=by rw[kAj,h0];decide
 generalize tokP ts en now=t at *;clear h h0;have hfd:=zBO t.f0 t.f2 t.f1;have body:∀(Q:Ending→World→Prop),(∀w5:World,True→True)→True:=fun _ _=>trivial
 clear body;go_enter Tryz.func252,Tryz.ntmps252;go_wp2_with fail;refine hpk.mono ?_;rintro e w1 ⟨rfl,hb1⟩;have M1:=(M0.below hb1).alloc (tokO t);have T1:=zA4 w1 (tokO t);obtain⟨c1,f1,c3,c4,lt⟩:=(M0.below hb1).st.rdr.cells;have hb1R:R<w1.heap.size:=kBi M0.st.rdr.lt hb1.size;have K:=Took.next M1.st.rdr (kA3 _ _)
 have M2:=M1.go E hRw K hlt;have T2:=K.blk T1 (kAq hb1R);simp only[kB3,hb1R] at M2 T2;clear K;have hs:=Hs.out _ M2.st.rdr;go_wp2_with fail;refine hs.mono ?_;rintro e w3 ⟨rfl,hk3⟩;have M3:=M2.go E hRw hk3 hlt1;have T3:=hk3.blk T2 (kAq hb1R);have d1:=zA1 T3 1;have M4:=M3.alloc (.cells #[.int .i64 14,.string ⟨#[]⟩,.string ⟨#[]⟩,.string t.f1,.int .i64 0,.slice none 0 0] 31);have X4:=zA4 w3 (.cells #[.int .i64 14,.string ⟨#[]⟩,.string ⟨#[]⟩,.string t.f1,.int .i64 0,.slice none 0 0] 31);have hs2:=Hs2.out _ M4.st.rdr;go_wp2_with fail;refine hs2.mono ?_;rintro e w5 ⟨rfl,hk5⟩;have M5:=M4.go E hRw hk5 hlt1;have hX3R:=kAq M3.st.rdr.lt;have X5:=hk5.blk X4 hX3R;have hl:=HL.out w5 M5.st
 cases r with
 | error p =>
  unfold zDD zAk at hl;go_wp2_with (go_at_call 279;refine hl.mono ?_;rintro e w6 ⟨rfl,hg⟩);exact⟨rfl,rfl,kA9 M5.took.grown hg⟩
 | ok r =>
  obtain⟨xs,n⟩:=r;unfold zDD at hl;have hX5:=zA5 X5;have hw3:=M3.lt;go_wp2_with fail;refine hl.mono ?_;rintro e w6 ⟨hn1,hn2,v,rfl,hx,hk⟩;have M6:=M5.go E hRw hk hn2;have X6:=hk.blk X5 hX3R;obtain⟨ao,n5,c5,rfl⟩:∃ao n5 c5,v=.slice ao n5 c5:=by obtain⟨A,c,h⟩:=Kd.R_slice hx;exact⟨A,_,c,h⟩
  obtain⟨⟨p0,p1,p2,p3,p4,p5⟩,⟨z0,z1,z2,z3,z4,z5⟩,xl⟩:=zA9 X6;have M7:=M6.set5 E hRw hX3R hw3 X6 (.slice ao n5 c5);have hx7:Ex (w6.setCell ⟨w3.heap.size,5,none⟩ (.slice ao n5 c5)) (fun k=>w.heap.size<k) ⟨14,z28,t.f1,0,xs⟩ (exV ⟨14,z28,t.f1,0,xs⟩ (.slice ao n5 c5)) :=
   ⟨_,rfl,Kd.R_mono (Kd.R_step hx (fun k hk _=>kA7 _ _ _ _ (by simp only[From] at hk;simp only;omega))) (fun k hk=>by simp only[From] at hk;omega)⟩
  have X7:=zAa X6 5 (.slice ao n5 c5);obtain⟨⟨s0,s1,s2,s3,s4,s5⟩,-,-⟩:=zA9 X7;obtain⟨⟨q0,q1,q2,q3,q4,q5⟩,⟨y0,y1,y2,y3,y4,y5⟩,xl2⟩:=zA9 M7.res;go_wp2;refine kAg (zAe Tryz.results252 _ _ w.heap.size 31 _ (0,0) _ rfl (fin6 _ _ _ _ _ _ M7.res) Tryz.underlying31 rfl zB6) rfl (M7.done hRw hx7 kCW _ _ _ _ _ _)
theorem atom_par (W0:World) (R B:Nat) (ts:List S47) (en now:Nat) (w:World) (E:Env W0 R B ts) (h:St W0 R B ts en now w) (h2:(tokP ts en now).f0≠2) (h0:(tokP ts en now).f0≠0) (hsk:sk ts en now ⟨#[40]⟩=true) (r:PR) (hex:∀w',St W0 R B ts en (now+1) w'→Calls Tryz.prog 134 #[.pointer (some ⟨R,0,none⟩)] w' (zAi w' R ts en (now+1) r)) :
  Calls Tryz.prog 252 #[.pointer (some ⟨R,0,none⟩)] w (zAi w R ts en now (match (generalizing:=false) r with | .error p=>.error p | .ok (x,n)=>if sk ts en n ⟨#[41]⟩=true then .ok (x,n+1) else .error (atP ts en n))):=by
 have few:=E.few;have hRw:=h.rdr.lt;have M0:=Mid.start h;have hpk:=zBc R ts now en (w.alloc zO) M0.st.rdr h.pos;unfold tokV at hpk;have hlt:=zAw hsk;have Hs:=kA1 (fun w' hr=>zAF R ts now en ⟨#[40]⟩ w' hr few hsk);have HX:=kA1 hex;generalize hres:(match (generalizing:=false) r with | .error p=>.error p | .ok (x,n)=>if sk ts en n ⟨#[41]⟩=true then .ok (x,n+1) else .error (atP ts en n):PR)=res;have Hres:=kA1 hres;clear hsk hex hres;have h0':((tokP ts en now).f0==0)=false:=by rw[kAj];exact h0
 have h2':((tokP ts en now).f0==2)=false:=by rw[kAj];exact h2
 have hnow:=h.pos;generalize tokP ts en now=t at *;clear h h0 h2;have hfd:=zBO t.f0 t.f2 t.f1;go_enter Tryz.func252,Tryz.ntmps252;go_wp2_with fail;refine hpk.mono ?_;rintro e w1 ⟨rfl,hb1⟩;have M1:=(M0.below hb1).alloc (tokO t);have T1:=zA4 w1 (tokO t);have hs:=Hs.out _ M1.st.rdr;go_wp2_with fail;refine hs.mono ?_;rintro e w3 ⟨rfl,hk3⟩;have M3:=M1.go E hRw hk3 hlt;have hx:=HX.out _ M3.st;obtain⟨c1,f1,c3,c4,lt⟩:=M3.st.rdr.cells
 cases r with
 | error p =>
  unfold zAi zAk at hx;go_wp2_with (go_at_call 134;refine hx.mono ?_;rintro e w4 ⟨rfl,hg⟩);rw[← Hres.out];exact⟨rfl,rfl,kA9 M3.took.grown hg⟩
 | ok r =>
  obtain⟨x,n⟩:=r;unfold zAi at hx
  cases hcl:sk ts en n ⟨#[41]⟩ with
  | true =>
   have Hr:Hid (res=.ok (x,n+1)):=by
    show _=_;rw[← Hres.out];simp only[hcl,if_true]
   have hltc:=zAw hcl;have Hcl:=kA1 (fun w' hr=>zBR R ts n en ⟨#[41]⟩ w' hr few hcl);clear hcl;go_wp2_with fail;refine hx.mono ?_;rintro e w4 ⟨hn1,hn2,v,rfl,hv,hk4⟩;obtain⟨v5,A5,n5,c5,rfl,rfl,_,_⟩:=hv.cells;unfold exV;have M4:=M3.go E hRw hk4 hn2;have hw3:=M3.lt;have M5:=M4.alloc (.cells #[.int .i64 x.f0,.string x.f1.f0,.string x.f1.f1,.string x.f2,.int .i64 x.f3,.slice A5 n5 c5] 31);have X5:=zA4 w4 (.cells #[.int .i64 x.f0,.string x.f1.f0,.string x.f1.f1,.string x.f2,.int .i64 x.f3,.slice A5 n5 c5] 31);have hv5:=hv.below ((kA3 _ w4).alloc (kA2 _) (.cells #[.int .i64 x.f0,.string x.f1.f0,.string x.f1.f1,.string x.f2,.int .i64 x.f3,.slice A5 n5 c5] 31));have hcl:=Hcl.out _ M5.st.rdr;go_wp2_with fail;refine hcl.mono ?_;rintro e w6 ⟨rfl,hk6⟩;have M6:=M5.go E hRw hk6 hltc;have X6:=hk6.blk X5 (kAq M4.st.rdr.lt);have hv6:=(hv5.grown hk6.grown (fun k hk=>by simp only[From] at hk;omega)).mono (S':=fun k=>w.heap.size<k) (fun k hk=>by simp only[From] at hk;omega);obtain⟨⟨s0,s1,s2,s3,s4,s5⟩,-,-⟩:=zA9 X6;obtain⟨⟨q0,q1,q2,q3,q4,q5⟩,⟨y0,y1,y2,y3,y4,y5⟩,xl2⟩:=zA9 M6.res;go_wp2;rw[Hr.out];refine kAg (zAe Tryz.results252 _ _ w.heap.size 31 _ (0,0) _ rfl (fin6 _ _ _ _ _ _ M6.res) Tryz.underlying31 rfl zB6) rfl (M6.done hRw hv6 kCW _ _ _ _ _ _)
  | false =>
   have Hr:Hid (res=.error (atP ts en n)):=by
    show _=_;rw[← Hres.out];simp only[hcl,kCh,if_false]
   have htn:=fun n0 w' hr=>zCx R ts n en ⟨#[41]⟩ w' hr n0 hcl
   unfold zAk at htn;have Hcl:=kA1 htn;clear hcl htn;go_wp2_with fail;refine hx.mono ?_;rintro e w4 ⟨hn1,hn2,v,rfl,hv,hk4⟩;obtain⟨v5,A5,n5,c5,rfl,rfl,_,_⟩:=hv.cells;unfold exV;have M4:=M3.go E hRw hk4 hn2;have M5:=M4.alloc (.cells #[.int .i64 x.f0,.string x.f1.f0,.string x.f1.f1,.string x.f2,.int .i64 x.f3,.slice A5 n5 c5] 31);have hcl:=Hcl.out hn2 _ M5.st.rdr;go_wp2_with fail;refine hcl.mono ?_;rintro e w6 ⟨rfl,hb6⟩;go_wp2;rw[Hr.out];exact⟨rfl,rfl,kAi M5.took.grown hb6⟩
theorem atom_list (W0:World) (R B:Nat) (ts:List S47) (en now:Nat) (w:World) (E:Env W0 R B ts) (h:St W0 R B ts en now w) (h2:(tokP ts en now).f0≠2) (h0:(tokP ts en now).f0≠0) (hsk:sk ts en now ⟨#[40]⟩=false) (hs2:sk ts en now ⟨#[91]⟩=true) (r:Except Int (List S31×Nat)) (hlist:∀w',St W0 R B ts en (now+1) w'→Calls Tryz.prog 279 #[.pointer (some ⟨R,0,none⟩),.string ⟨#[93]⟩] w' (zDD w' R ts en (now+1) r)) :
  Calls Tryz.prog 252 #[.pointer (some ⟨R,0,none⟩)] w (zAi w R ts en now (match (generalizing:=false) r with | .error p=>.error p | .ok (xs,n)=>.ok (⟨8,z28,⟨#[]⟩,0,xs⟩,n))):=by
 have few:=E.few;have hRw:=h.rdr.lt;have M0:=Mid.start h;have hpk:=zBc R ts now en (w.alloc zO) M0.st.rdr h.pos;unfold tokV at hpk;have hlt:=zAw hs2;have Hs:=kA1 (fun w' hr=>zB1 R ts now en ⟨#[40]⟩ w' hr (kAN hlt) hsk);have Hs2:=kA1 (fun w' hr=>zBR R ts now en ⟨#[91]⟩ w' hr few hs2);have HL:=kA1 hlist;clear hsk hs2 hlist;have h0':((tokP ts en now).f0==0)=false:=by rw[kAj];exact h0
 have h2':((tokP ts en now).f0==2)=false:=by rw[kAj];exact h2
 have hnow:=h.pos;generalize tokP ts en now=t at *;clear h h0 h2;have hfd:=zBO t.f0 t.f2 t.f1;go_enter Tryz.func252,Tryz.ntmps252;go_wp2_with fail;refine hpk.mono ?_;rintro e w1 ⟨rfl,hb1⟩;have M1:=(M0.below hb1).alloc (tokO t);have T1:=zA4 w1 (tokO t);have hs:=Hs.out _ M1.st.rdr;go_wp2_with fail;refine hs.mono ?_;rintro e w3 ⟨rfl,hk3⟩;have M3:=M1.go E hRw hk3 hnow;have hs2:=Hs2.out _ M3.st.rdr;go_wp2_with fail;refine hs2.mono ?_;rintro e w4 ⟨rfl,hk4⟩;have M4:=M3.go E hRw hk4 hlt;have hl:=HL.out w4 M4.st
 cases r with
 | error p =>
  unfold zDD zAk at hl;go_wp2_with (go_at_call 279;refine hl.mono ?_;rintro e w6 ⟨rfl,hg⟩);exact⟨rfl,rfl,kA9 M4.took.grown hg⟩
 | ok r =>
  obtain⟨xs,n⟩:=r;unfold zDD at hl;have hw4:=M4.lt;go_wp2_with fail;refine hl.mono ?_;rintro e w6 ⟨hn1,hn2,v,rfl,hx,hk⟩;have M6:=M4.go E hRw hk hn2;obtain⟨ao,n5,c5,rfl⟩:∃ao n5 c5,v=.slice ao n5 c5:=by obtain⟨A,c,h⟩:=Kd.R_slice hx;exact⟨A,_,c,h⟩
  have hx7:Ex w6 (fun k=>w.heap.size<k) ⟨8,z28,⟨#[]⟩,0,xs⟩ (exV ⟨8,z28,⟨#[]⟩,0,xs⟩ (.slice ao n5 c5)) :=
   ⟨_,rfl,Kd.R_mono hx (fun k hk=>by simp only[From] at hk;omega)⟩
  obtain⟨⟨q0,q1,q2,q3,q4,q5⟩,⟨y0,y1,y2,y3,y4,y5⟩,xl2⟩:=zA9 M6.res;go_wp2;refine kAg (zAe Tryz.results252 _ _ w.heap.size 31 _ (0,0) _ rfl (fin6 _ _ _ _ _ _ M6.res) Tryz.underlying31 rfl zB6) rfl (M6.done hRw hx7 kCW _ _ _ _ _ _)
theorem atom_no (W0:World) (R B:Nat) (ts:List S47) (en now:Nat) (w:World) (E:Env W0 R B ts) (h:St W0 R B ts en now w) (h2:(tokP ts en now).f0≠2) (h0:(tokP ts en now).f0≠0) (hsk:sk ts en now ⟨#[40]⟩=false) (hs2:sk ts en now ⟨#[91]⟩=false) :
  Calls Tryz.prog 252 #[.pointer (some ⟨R,0,none⟩)] w (zAi w R ts en now (.error (atP ts en now))):=by
 have few:=E.few;have hRw:=h.rdr.lt;have M0:=Mid.start h;have hpk:=zBc R ts now en (w.alloc zO) M0.st.rdr h.pos;unfold tokV at hpk;have hnow':=h.pos;have Hs:=kA1 (fun w' hr=>zB1 R ts now en ⟨#[40]⟩ w' hr hnow' hsk);have htn:=(fun w' hr=>zCx R ts now en ⟨#[91]⟩ w' hr hnow' hs2);unfold zAk at htn;have Hs2:=kA1 htn;generalize hat:atP ts en now=at_;have Hat:=kA1 hat;clear hsk hs2 htn hat;unfold atP at Hat;have h0':((tokP ts en now).f0==0)=false:=by rw[kAj];exact h0
 have h2':((tokP ts en now).f0==2)=false:=by rw[kAj];exact h2
 have hnow:=h.pos;generalize tokP ts en now=t at *;clear h h0 h2;have hfd:=zBO t.f0 t.f2 t.f1;go_enter Tryz.func252,Tryz.ntmps252;go_wp2_with fail;refine hpk.mono ?_;rintro e w1 ⟨rfl,hb1⟩;have M1:=(M0.below hb1).alloc (tokO t);have T1:=zA4 w1 (tokO t);have hs:=Hs.out _ M1.st.rdr;go_wp2_with fail;refine hs.mono ?_;rintro e w3 ⟨rfl,hk3⟩;have M3:=M1.go E hRw hk3 hnow;have hs2:=Hs2.out _ M3.st.rdr;go_wp2_with fail;refine hs2.mono ?_;rintro e w4 ⟨rfl,hb⟩;go_wp2;rw[← Hat.out];exact⟨rfl,rfl,kAi M3.took.grown hb⟩
theorem atom_walk (W0:World) (R B:Nat) (ts:List S47) (en:Nat) (chk:S28→Int) (ex:Nat→PR) (m:Nat) (E:Env W0 R B ts)
  (hlit:∀now w,m≤now→St W0 R B ts en now w→(tokP ts en now).f0=2→Calls Tryz.prog 278 #[.pointer (some ⟨R,0,none⟩)] w (zAi w R ts en now (litS ts en chk now)))
  (hex:Pars W0 R B ts en 134 ex (m+1)):Pars W0 R B ts en 252 (atomS ts en chk ex) m:=fun now w hm h=>by
 unfold atomS;by_cases h2:(tokP ts en now).f0=2
 ·rw[kAb h2];exact atom_lit W0 R B ts en now w E h h2 _ (fun w' h'=>hlit now w' hm h' h2)
 ·rw[kAa h2];by_cases h0:(tokP ts en now).f0=0
  ·rw[kAb h0]
   cases hsk:sk ts en (now+1) ⟨#[40]⟩ with
   | false=>rw[kAa kD0];exact atom_ref W0 R B ts en now w E h h0 hsk
   | true =>
    rw[kAb rfl]
    cases hs2:sk ts en (now+2) ⟨#[41]⟩ with
    | true=>rw[kAb rfl];exact atom_call0 W0 R B ts en now w E h h0 hsk hs2
    | false =>
     rw[kAa kD0];exact atom_call W0 R B ts en now w E h h0 hsk hs2 _ (fun w' h'=>list_walk W0 R B ts en ex ⟨#[41]⟩ m (now+2) w' E h' kCW hex)
  ·rw[kAa h0]
   cases hsk:sk ts en now ⟨#[40]⟩ with
   | true=>rw[kAb rfl];exact atom_par W0 R B ts en now w E h h2 h0 hsk _ (fun w' h'=>hex (now+1) w' kCW h')
   | false =>
    rw[kAa kD0]
    cases hs2:sk ts en now ⟨#[91]⟩ with
    | true=>rw[kAb rfl];exact atom_list W0 R B ts en now w E h h2 h0 hsk hs2 _ (fun w' h'=>list_walk W0 R B ts en ex ⟨#[93]⟩ m (now+1) w' E h' kCW hex)
    | false=>rw[kAa kD0];exact atom_no W0 R B ts en now w E h h2 h0 hsk hs2
end Go.Proofs.YtjaobihcdkjmbaaGreatDoor
end
