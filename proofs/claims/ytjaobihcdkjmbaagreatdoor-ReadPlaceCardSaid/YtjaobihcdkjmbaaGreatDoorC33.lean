/- The law ReadPlace answers true for every argument; a part of its proof. -/
import Derived.Test.YtjaobihcdkjmbaaGreatDoorCa
import Derived.Test.YtjaobihcdkjmbaaGreatDoorCb
import Derived.Test.YtjaobihcdkjmbaaGreatDoorC7
import Derived.Test.YtjaobihcdkjmbaaGreatDoorC12
import Derived.Test.YtjaobihcdkjmbaaGreatDoorC16
import Derived.Test.YtjaobihcdkjmbaaGreatDoorC21
import Derived.Test.YtjaobihcdkjmbaaGreatDoorC23
set_option linter.unusedVariables false
set_option linter.unusedSimpArgs false
namespace Go.Proofs.YtjaobihcdkjmbaaGreatDoor.PReadTokens
end Go.Proofs.YtjaobihcdkjmbaaGreatDoor.PReadTokens
namespace Go.Proofs.YtjaobihcdkjmbaaGreatDoorW.PrintWords
end Go.Proofs.YtjaobihcdkjmbaaGreatDoorW.PrintWords
section
namespace Go.Proofs.YtjaobihcdkjmbaaGreatDoor
open Go.RowKit Go.Proofs.YtjaobihcdkjmbaaGreatDoorW.PrintWords Go.Proofs.YtjaobihcdkjmbaaGreatDoor.PReadTokens
def txt1 (x:S31):Bool :=
 decide ((zDO x).size≤1000000)&&((decide (x.f0=1)&&decide (x.f4.length=0))||(decide (x.f0=2)&&decide (x.f4.length=1))||((decide (x.f0=3)||decide (x.f0=4)||decide (x.f0=5)||decide (x.f0=6))&&decide (x.f4.length=2)) ||
  (decide (x.f0=7)&&decide (x.f4.length=1)&&decide (-9≤x.f3)&&decide (x.f3≤9)))
mutual
def txtB:S31→Bool
 | ⟨a,b,c,d,l⟩=>txt1 ⟨a,b,c,d,l⟩&&txtL l
def txtL:List S31→Bool
 | []=>true
 | x :: l=>txtB x&&txtL l
end
theorem txtB_eq (x:S31):txtB x=(txt1 x&&txtL x.f4):=by cases x;rfl
theorem len0 {l:List S31} (h:l.length=0):l=[]:=kBn h
theorem len1 {l:List S31} (h:l.length=1):∃y,l=[y]:=List.length_eq_one_iff.1 h
theorem len2 {l:List S31} (h:l.length=2):∃y z,l=[y,z]:=by
 match l,h with
 | [y,z],_=>exact⟨y,z,rfl⟩
theorem text_calls:∀(n:Nat) (x:S31),zAI x≤n→txtB x=true→∀(least:Int) (v:Value) (w:World),Vw w x v→Tab w →
  Calls Tryz.prog 58 #[v,.int .i64 least] w fun e w'=>e=.returned (.string (zAC x least))∧Below w.heap.size w w':=by
 intro n
 induction n with
 | zero=>intro x h;rw[zB3] at h;omega
 | succ n ih =>
  intro x hd hx least v w hv hT;rw[txtB_eq,kAx] at hx;obtain⟨h1,h2⟩:=hx;unfold txt1 at h1;simp only[kAx,kCz,kB6] at h1;obtain⟨hsz,hk⟩:=h1;rw[zB3] at hd;have hrec:∀y,y∈x.f4→txtB y=true→∀v w' ls,Vw w' y v→Below w.heap.size w w'→Calls Tryz.prog 58 #[v,.int .i64 ls] w' fun e w''=>e=.returned (.string (zAC y ls))∧Below w'.heap.size w' w'':=by
   intro y hy hty v w' ls hv' hb;have:=zCg hy;exact ih y kCW hty ls v w' hv' (hT.below hb)
  rcases hk with ((⟨ho,hl⟩ | ⟨ho,hl⟩) | ⟨ho,hl⟩) | ⟨⟨⟨ho,hl⟩,hs0⟩,hs1⟩
  ·exact text_ref x ho (len0 hl) least v w hv hsz
  ·obtain⟨y,hy⟩:=len1 hl;rw[hy] at h2 hrec;simp only[txtL,kAx] at h2;exact text_ahead x y ho hy least v w hv hsz (hrec y kCY h2.1)
  ·obtain⟨y,z,hy⟩:=len2 hl;rw[hy] at h2 hrec;simp only[txtL,kAx] at h2;rcases ho with ((ho | ho) | ho) | ho
   ·exact text_op3 x y z ho hy least v w hv hsz (hrec y kCY h2.1) (hrec z kCY h2.2.1)
   ·exact text_op4 x y z ho hy least v w hv hsz (hrec y kCY h2.1) (hrec z kCY h2.2.1)
   ·exact text_op5 x y z ho hy least v w hv hsz (hrec y kCY h2.1) (hrec z kCY h2.2.1)
   ·exact text_op6 x y z ho hy least v w hv hsz (hrec y kCY h2.1) (hrec z kCY h2.2.1)
  ·obtain⟨y,hy⟩:=len1 hl;rw[hy] at h2 hrec;simp only[txtL,kAx] at h2;exact text_pow x y ho hy kCW kCW least v w hv hsz hT (hrec y kCY h2.1)
end Go.Proofs.YtjaobihcdkjmbaaGreatDoor
end
