/- What can be read as an expression is printed as a text that reads as the same, and is printed as itself: for every argument; a part of its proof. -/
import Derived.Test.YtjaobihcdkjmbaaGreatDoorDa
import Derived.Test.YtjaobihcdkjmbaaGreatDoorDb
import Derived.Test.YtjaobihcdkjmbaaGreatDoorD0
set_option linter.unusedVariables false
set_option linter.unusedSimpArgs false
namespace Go.Proofs.YtjaobihcdkjmbaaGreatDoor.PReadTokens
end Go.Proofs.YtjaobihcdkjmbaaGreatDoor.PReadTokens
namespace Go.Proofs.YtjaobihcdkjmbaaGreatDoorW.PrintWords
end Go.Proofs.YtjaobihcdkjmbaaGreatDoorW.PrintWords
set_option maxHeartbeats 1000000
section
namespace Go.Proofs.YtjaobihcdkjmbaaGreatDoor
open Go.RowKit Go.Proofs.YtjaobihcdkjmbaaGreatDoorW.PrintWords Go.Proofs.YtjaobihcdkjmbaaGreatDoor.PReadTokens
theorem zBX {X:World} {R:Nat} {x0 x1:Value} {t:TypeId} (v0 v1:Value) (hR:X.heap[R]?=some (.cells #[x0,x1] t (0,0))) :
  ((X.setCell ⟨R,0,none⟩ v0).setCell ⟨R,1,none⟩ v1).heap[R]?=some (.cells #[v0,v1] t (0,0)):=zA8 (zA8 hR 0 v0) 1 v1
theorem zero_calls (a:Int) (w:World):Calls Tryz.prog 231 #[.int .i64 a] w fun e w'=>e=.returned (.bool (a==0))∧w'=w:=by
 go_enter Tryz.func231,Tryz.ntmps231;go_wp2;go_ret;exact⟨rfl,rfl⟩
theorem zC1:(Tryz.prog.info? 234).map (·.size)=some 2:=kD5
theorem size309:(Tryz.prog.info? 309).map (·.size)=some 2:=kD5
end Go.Proofs.YtjaobihcdkjmbaaGreatDoor
end
