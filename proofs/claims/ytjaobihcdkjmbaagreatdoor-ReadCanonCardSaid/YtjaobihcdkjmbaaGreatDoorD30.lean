/- What can be read as an expression is printed as a text that reads as the same, and is printed as itself: for every argument; a part of its proof. -/
import Derived.Test.YtjaobihcdkjmbaaGreatDoorDa
import Derived.Test.YtjaobihcdkjmbaaGreatDoorDb
import Derived.Test.YtjaobihcdkjmbaaGreatDoorD0
import Derived.Test.YtjaobihcdkjmbaaGreatDoorD7
import Derived.Test.YtjaobihcdkjmbaaGreatDoorD10
import Derived.Test.YtjaobihcdkjmbaaGreatDoorD11
import Derived.Test.YtjaobihcdkjmbaaGreatDoorD28
set_option linter.unusedVariables false
set_option linter.unusedSimpArgs false
namespace Go.Proofs.YtjaobihcdkjmbaaGreatDoor.PReadTokens
end Go.Proofs.YtjaobihcdkjmbaaGreatDoor.PReadTokens
namespace Go.Proofs.YtjaobihcdkjmbaaGreatDoorW.PrintWords
end Go.Proofs.YtjaobihcdkjmbaaGreatDoorW.PrintWords
section
namespace Go.Proofs.YtjaobihcdkjmbaaGreatDoor
open Go.RowKit Go.Proofs.YtjaobihcdkjmbaaGreatDoorW.PrintWords Go.Proofs.YtjaobihcdkjmbaaGreatDoor.PReadTokens
theorem toks_told (w:World):Calls Tryz.prog 15 #[.string ⟨#[97,49,43,50,123,109,47,115,125]⟩] w fun e w'=>∃A c,e=.returned (.tuple #[.slice A 4 c,.int .i64 0,.int .i64 0])∧4≤c ∧
  Kd.C k47 w' A 4 [⟨0,⟨#[97,49]⟩,0⟩,⟨4,⟨#[43]⟩,2⟩,⟨2,⟨#[50]⟩,3⟩,⟨3,⟨#[109,47,115]⟩,4⟩]∧Below w.heap.size w w':=by
 refine (Tokens_calls _ (by show 9≤2000;omega) w).mono ?_;intro e w' h;unfold zGi at h;rw[toks1] at h;have hb:badOf [⟨0,⟨#[97,49]⟩,0⟩,⟨4,⟨#[43]⟩,2⟩,⟨2,⟨#[50]⟩,3⟩,⟨3,⟨#[109,47,115]⟩,4⟩]=none:=rfl;rw[hb] at h;obtain⟨v,h1,h2,h3⟩:=h;obtain⟨A,c,rfl,h4,h5⟩:=h2.C;exact⟨A,c,h1,h4,h5,h3⟩
end Go.Proofs.YtjaobihcdkjmbaaGreatDoor
end
