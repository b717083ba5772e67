/- The law ReadPlace answers true for every argument; a part of its proof. -/
import Derived.Test.YtjaobihcdkjmbaaGreatDoorCa
import Derived.Test.YtjaobihcdkjmbaaGreatDoorCb
import Derived.Test.YtjaobihcdkjmbaaGreatDoorC7
import Derived.Test.YtjaobihcdkjmbaaGreatDoorC9
import Derived.Test.YtjaobihcdkjmbaaGreatDoorC15
set_option linter.unusedVariables false
set_option linter.unusedSimpArgs false
namespace Go.Proofs.YtjaobihcdkjmbaaGreatDoor.PReadTokens
end Go.Proofs.YtjaobihcdkjmbaaGreatDoor.PReadTokens
namespace Go.Proofs.YtjaobihcdkjmbaaGreatDoorW.PrintWords
end Go.Proofs.YtjaobihcdkjmbaaGreatDoorW.PrintWords
section
namespace Go.Proofs.YtjaobihcdkjmbaaGreatDoor
open Go.RowKit Go.Maps Go.WideShapes Go.Proofs.YtjaobihcdkjmbaaGreatDoorW.PrintWords Go.Proofs.YtjaobihcdkjmbaaGreatDoor.PReadTokens
abbrev nmL (s:ByteArray):Lit:=.string s.data.toList
end Go.Proofs.YtjaobihcdkjmbaaGreatDoor
end
section
namespace Go.Proofs.YtjaobihcdkjmbaaGreatDoor
open Go.RowKit Go.Proofs.YtjaobihcdkjmbaaGreatDoorW.PrintWords Go.Proofs.YtjaobihcdkjmbaaGreatDoor.PReadTokens
abbrev kt (t:S47):Tk:=(t.f0,t.f1)
theorem toksF_enough:∀(n m:Nat) (s:ByteArray) (a:Nat),a≤s.size→s.size<a+n→s.size<a+m→zBV n s a=zBV m s a:=by
 intro n
 induction n with
 | zero=>intro m s a h1 h2;omega
 | succ n ih =>
  intro m s a h1 h2 h3;obtain⟨m,rfl⟩:∃i,m=i+1:=⟨m-1,kCW⟩;unfold zBV;by_cases hb:zAl s a<s.size
  ·rw[kAb hb,kAb hb];by_cases hk:(zAE s (zAl s a)).1.f0=-1
   ·rw[kAb hk,kAb hk]
   ·rw[kAa hk,kAa hk];have hm:=zDg s _ hb hk;have hsk:a≤zAl s a:=kCd _ _;rw[ih m s _ hm.2 kCW kCW]
  ·rw[kAa hb,kAa hb]
def Tks (s:ByteArray) (a:Nat):List S47:=zBV (s.size+1) s a
theorem zE4 (s:ByteArray) (a:Nat) (h:a≤s.size) :
  Tks s a=if zAl s a<s.size then (if (zAE s (zAl s a)).1.f0=-1 then [(zAE s (zAl s a)).1] else (zAE s (zAl s a)).1 :: Tks s (zAE s (zAl s a)).2) else []:=by
 unfold Tks
 conv=>lhs;unfold zBV
 by_cases hb:zAl s a<s.size
 ·rw[kAb hb,kAb hb];by_cases hk:(zAE s (zAl s a)).1.f0=-1
  ·rw[kAb hk,kAb hk]
  ·rw[kAa hk,kAa hk];have hm:=zDg s _ hb hk;rw[toksF_enough s.size (s.size+1) s _ hm.2 kCW kCW]
 ·rw[kAa hb,kAa hb]
theorem ba_ext {x y:ByteArray} (h:x.data.toList=y.data.toList):x=y:=by
 apply kC0;exact kBZ.1 h
end Go.Proofs.YtjaobihcdkjmbaaGreatDoor
end
