/- What can be read as an expression is printed as a text that reads as the same, and is printed as itself: for every argument; a part of its proof. -/
import Derived.Test.YtjaobihcdkjmbaaGreatDoorDa
import Derived.Test.YtjaobihcdkjmbaaGreatDoorDb
import Derived.Test.YtjaobihcdkjmbaaGreatDoorD7
import Derived.Test.YtjaobihcdkjmbaaGreatDoorD10
set_option linter.unusedVariables false
set_option linter.unusedSimpArgs false
namespace Go.Proofs.YtjaobihcdkjmbaaGreatDoor.PReadTokens
end Go.Proofs.YtjaobihcdkjmbaaGreatDoor.PReadTokens
namespace Go.Proofs.YtjaobihcdkjmbaaGreatDoorW.PrintWords
end Go.Proofs.YtjaobihcdkjmbaaGreatDoorW.PrintWords
section
namespace Go.Proofs.YtjaobihcdkjmbaaGreatDoor
open Go.RowKit Go.Proofs.YtjaobihcdkjmbaaGreatDoorW.PrintWords Go.Proofs.YtjaobihcdkjmbaaGreatDoor.PReadTokens
theorem run_step {ks:List Int} {s:ByteArray} {pos:Nat} (h:pos<s.size) (hk:ks.contains (srt (s[pos]'h).toNat)=true):zBc ks (zAu s pos)=1+zBc ks (zAu s (pos+1)):=by
 unfold zAu zBc;rw[kAp (show pos<s.data.toList.length from h),kB0];have:okC ks (s.data.toList[pos]'(show pos<s.data.toList.length from h))=true:=hk;rw[kAa this,List.length_cons];omega
end Go.Proofs.YtjaobihcdkjmbaaGreatDoor
end
