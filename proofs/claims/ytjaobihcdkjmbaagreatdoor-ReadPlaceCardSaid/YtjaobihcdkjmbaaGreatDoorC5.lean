/- The law ReadPlace answers true for every argument; a part of its proof. -/
import Derived.Test.YtjaobihcdkjmbaaGreatDoorCa
import Derived.Test.YtjaobihcdkjmbaaGreatDoorCb
set_option linter.unusedVariables false
set_option linter.unusedSimpArgs false
namespace Go.Proofs.YtjaobihcdkjmbaaGreatDoor.PReadTokens
end Go.Proofs.YtjaobihcdkjmbaaGreatDoor.PReadTokens
namespace Go.Proofs.YtjaobihcdkjmbaaGreatDoorW.PrintWords
end Go.Proofs.YtjaobihcdkjmbaaGreatDoorW.PrintWords
section
namespace Go.Proofs.YtjaobihcdkjmbaaGreatDoor
open Go.RowKit Go.Proofs.YtjaobihcdkjmbaaGreatDoorW.PrintWords Go.Proofs.YtjaobihcdkjmbaaGreatDoor.PReadTokens
theorem num_ne6 {w:World} {g:Addr} {n a b:Int} {s t:ByteArray} {R:Nat} {B B2:Option Addr} {l c l2 c2:Nat} {ty:TypeId} (hg:w.cell? g=some (.int .u32 n)) (hR:w.heap[R]?=some (.cells #[.string s,.string t,.int .i64 a,.slice B l c,.int .i64 b,.slice B2 l2 c2] ty (0,0))):g.block≠R:=by
 intro e;obtain⟨b,o,sp⟩:=g;simp only at e;subst e;simp only[World.cell?,hR] at hg
 match o with
 | 0=>simp at hg
 | 1=>simp at hg
 | 2=>simp at hg
 | 3=>simp at hg
 | 4=>simp at hg
 | 5=>simp at hg
 | k+6=>simp at hg
theorem size236:(Tryz.prog.info? 236).map (·.size)=some 6:=kCX
end Go.Proofs.YtjaobihcdkjmbaaGreatDoor
end
