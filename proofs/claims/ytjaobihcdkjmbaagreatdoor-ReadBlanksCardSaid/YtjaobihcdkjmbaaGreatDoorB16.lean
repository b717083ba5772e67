/- The law ReadBlanks answers true for every argument; a part of its proof. -/
import Derived.Test.YtjaobihcdkjmbaaGreatDoorBa
import Derived.Test.YtjaobihcdkjmbaaGreatDoorBb
import Derived.Test.YtjaobihcdkjmbaaGreatDoorB11
set_option linter.unusedVariables false
set_option linter.unusedSimpArgs false
namespace Go.Proofs.YtjaobihcdkjmbaaGreatDoor.PReadTokens
end Go.Proofs.YtjaobihcdkjmbaaGreatDoor.PReadTokens
namespace Go.Proofs.YtjaobihcdkjmbaaGreatDoorW.PrintWords
end Go.Proofs.YtjaobihcdkjmbaaGreatDoorW.PrintWords
section
namespace Go.Proofs.YtjaobihcdkjmbaaGreatDoor
open Go.RowKit Go.Proofs.YtjaobihcdkjmbaaGreatDoorW.PrintWords Go.Proofs.YtjaobihcdkjmbaaGreatDoor.PReadTokens
theorem zD0 (w:World):(Op.equalIn 10000 198 (.agg #[.int .i64 0,.int .i64 0]) (.agg #[.int .i64 0,.int .i64 0])).run Tryz.prog w=.ok true w:=kCU
theorem zCZ (w:World):(Op.equalIn 10000 198 (.agg #[.int .i64 (-9),.int .i64 9]) (.agg #[.int .i64 0,.int .i64 0])).run Tryz.prog w=.ok false w:=kCU
theorem zCj (w:World):(Op.equalIn 10000 198 (.agg #[.int .i64 1,.int .i64 99]) (.agg #[.int .i64 0,.int .i64 0])).run Tryz.prog w=.ok false w:=kCU
theorem zE1 (op:Int):(zAw op=0∧zAx op=0)∨(zAw op=-9∧zAx op=9)∨(zAw op=1∧zAx op=99):=by
 unfold zAw zAx;by_cases h7:op=7
 ·simp[h7]
 ·by_cases h10:op=10∨op=11
  ·simp[h7,h10]
  ·simp[h7,h10]
end Go.Proofs.YtjaobihcdkjmbaaGreatDoor
end
