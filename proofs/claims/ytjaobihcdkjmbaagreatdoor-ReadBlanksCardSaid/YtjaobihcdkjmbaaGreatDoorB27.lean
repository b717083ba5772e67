/- The law ReadBlanks answers true for every argument; a part of its proof. -/
import Derived.Test.YtjaobihcdkjmbaaGreatDoorBa
import Derived.Test.YtjaobihcdkjmbaaGreatDoorBb
import Derived.Test.YtjaobihcdkjmbaaGreatDoorB7
import Derived.Test.YtjaobihcdkjmbaaGreatDoorB23
set_option linter.unusedVariables false
set_option linter.unusedSimpArgs false
namespace Go.Proofs.YtjaobihcdkjmbaaGreatDoor.PReadTokens
end Go.Proofs.YtjaobihcdkjmbaaGreatDoor.PReadTokens
namespace Go.Proofs.YtjaobihcdkjmbaaGreatDoorW.PrintWords
end Go.Proofs.YtjaobihcdkjmbaaGreatDoorW.PrintWords
section
namespace Go.Proofs.YtjaobihcdkjmbaaGreatDoor
open Go.RowKit Go.Maps Go.WideShapes Go.Proofs.YtjaobihcdkjmbaaGreatDoorW.PrintWords Go.Proofs.YtjaobihcdkjmbaaGreatDoor.PReadTokens
abbrev nmL (s:ByteArray):Lit:=.string s.data.toList
mutual
/-- An expression with another one in the place of a name;none if a name would be bound. -/
def replS (name:ByteArray) (y:S31) (T:DataW Unit):S31→Option S31
 | ⟨op,num,nm,size,l⟩=>if op=1∧nm=name then some y else (zEo name y T op nm 0 l).map (fun l'=>⟨op,num,nm,size,l'⟩)
def zEo (name:ByteArray) (y:S31) (T:DataW Unit) (op:Int) (nm:ByteArray):Nat→List S31→Option (List S31)
 | _,[]=>some []
 | i,a :: l =>
  match (if zCN op i=true∧nm=name then some a else if zCN op i=true∧has T (nmL nm)=true∧has (zEv a) (nmL name)=true then none else replS name y T a) with
  | none=>none
  | some b=>(zEo name y T op nm (i+1) l).map (fun l'=>b :: l')
end
def zDy (name:ByteArray) (y:S31) (T:DataW Unit) (op:Int) (nm:ByteArray) (i:Nat) (a:S31):Option S31 :=
 if zCN op i=true∧nm=name then some a else if zCN op i=true∧has T (nmL nm)=true∧has (zEv a) (nmL name)=true then none else replS name y T a
theorem replS_eq (name:ByteArray) (y:S31) (T:DataW Unit) (x:S31):replS name y T x=if x.f0=1∧x.f2=name then some y else (zEo name y T x.f0 x.f2 0 x.f4).map (fun l'=>⟨x.f0,x.f1,x.f2,x.f3,l'⟩):=by cases x;rw[replS]
theorem replL_none {name:ByteArray} {y:S31} {T:DataW Unit} {op:Int} {nm:ByteArray} {i:Nat} {a:S31} {l:List S31} (h:zDy name y T op nm i a=none):zEo name y T op nm i (a :: l)=none:=by
 unfold zDy at h;rw[zEo,h]
theorem replL_some {name:ByteArray} {y:S31} {T:DataW Unit} {op:Int} {nm:ByteArray} {i:Nat} {a b:S31} {l:List S31} (h:zDy name y T op nm i a=some b):zEo name y T op nm i (a :: l)=(zEo name y T op nm (i+1) l).map (fun l'=>b :: l'):=by
 unfold zDy at h;rw[zEo,h]
theorem replL_nil (name:ByteArray) (y:S31) (T:DataW Unit) (op:Int) (nm:ByteArray) (i:Nat):zEo name y T op nm i []=some []:=by rw[zEo]
theorem replL_cons {name:ByteArray} {y:S31} {T:DataW Unit} {op:Int} {nm:ByteArray} {i:Nat} {a:S31} {l l':List S31} (h:zEo name y T op nm i (a :: l)=some l') :
  ∃b r,l'=b :: r∧zDy name y T op nm i a=some b∧zEo name y T op nm (i+1) l=some r:=by
 cases e:zDy name y T op nm i a with
 | none=>rw[replL_none e] at h;cases h
 | some b =>
  rw[replL_some e] at h;obtain⟨r,h1,h2⟩:=kBS.1 h;exact⟨b,r,h2.symm,rfl,h1⟩
theorem replS_cases {name:ByteArray} {y:S31} {T:DataW Unit} {x z:S31} (h:replS name y T x=some z):(x.f0=1∧x.f2=name∧z=y)∨(¬(x.f0=1∧x.f2=name)∧∃l',zEo name y T x.f0 x.f2 0 x.f4=some l'∧z=⟨x.f0,x.f1,x.f2,x.f3,l'⟩):=by
 rw[replS_eq] at h;by_cases e:x.f0=1∧x.f2=name
 ·rw[kAa e] at h;injection h with h;exact .inl ⟨e.1,e.2,h.symm⟩
 ·rw[kA9 e] at h;obtain⟨l',h1,h2⟩:=kBS.1 h;exact .inr ⟨e,l',h1,h2.symm⟩
theorem replOne_cases {name:ByteArray} {y:S31} {T:DataW Unit} {op:Int} {nm:ByteArray} {i:Nat} {a b:S31} (h:zDy name y T op nm i a=some b) :
  (zCN op i=true∧nm=name∧b=a)∨(¬(zCN op i=true∧nm=name)∧¬(zCN op i=true∧has T (nmL nm)=true∧has (zEv a) (nmL name)=true)∧replS name y T a=some b):=by
 unfold zDy at h;by_cases e:zCN op i=true∧nm=name
 ·rw[kAa e] at h;injection h with h;exact .inl ⟨e.1,e.2,h.symm⟩
 ·rw[kA9 e] at h;by_cases e2:zCN op i=true∧has T (nmL nm)=true∧has (zEv a) (nmL name)=true
  ·rw[kAa e2] at h;cases h
  ·rw[kA9 e2] at h;exact .inr ⟨e,e2,h⟩
end Go.Proofs.YtjaobihcdkjmbaaGreatDoor
end
