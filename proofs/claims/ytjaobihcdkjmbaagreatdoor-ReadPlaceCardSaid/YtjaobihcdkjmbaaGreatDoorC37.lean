/- The law ReadPlace answers true for every argument; a part of its proof. -/
import Derived.Test.YtjaobihcdkjmbaaGreatDoorCa
import Derived.Test.YtjaobihcdkjmbaaGreatDoorCb
import Derived.Test.YtjaobihcdkjmbaaGreatDoorC7
import Derived.Test.YtjaobihcdkjmbaaGreatDoorC23
import Derived.Test.YtjaobihcdkjmbaaGreatDoorC26
import Derived.Test.YtjaobihcdkjmbaaGreatDoorC31
set_option linter.unusedVariables false
set_option linter.unusedSimpArgs false
namespace Go.Proofs.YtjaobihcdkjmbaaGreatDoor.PReadTokens
end Go.Proofs.YtjaobihcdkjmbaaGreatDoor.PReadTokens
namespace Go.Proofs.YtjaobihcdkjmbaaGreatDoorW.PrintWords
end Go.Proofs.YtjaobihcdkjmbaaGreatDoorW.PrintWords
set_option maxRecDepth 100000
set_option maxHeartbeats 1000000
section
namespace Go.Proofs.YtjaobihcdkjmbaaGreatDoor
open Go.RowKit Go.Maps Go.Sort Go.Proofs.YtjaobihcdkjmbaaGreatDoorW.PrintWords Go.Proofs.YtjaobihcdkjmbaaGreatDoor.PReadTokens
def zGp (D:DataW Unit) (w:World) (e:Ending) (w':World):Prop :=
 ∃(v:Value) (ss:List (List UInt8)),e=.returned v∧ss.Perm (strKeys D)∧w'.ownsRow (w.heap.size+1) 9 1 v ss.length ((ss.mergeSort (fun x y=>decide (x≤y))).map encStr)∧(v=.slice none 0 0↔ss=[])∧Below w.heap.size w w'
theorem names_calls (b nn:Nat) (D:DataW Unit) (w:World) (hm:MapAt w b nn D) (hn:nn≤1000000000) :
  Calls Tryz.prog 74 #[.map (some b)] w (zGp D w):=by
 have hsz:=hm.size_le;have hs:=Tryz.slices_Sorted_keys_111_112 b nn D (plainElem Tryz.prog 4) w hm kDf kCW;refine (kBo (n:=6)).1 ?_;have hfK:Fence.wide.fn 112:=trivial;have hfS:Fence.wide.fn 111:=trivial;have hD:Fence.wide.depth.isSome=false:=rfl;refine kCA Tryz.func74 rfl trivial ?_;simp only[Tryz.ntmps74,kAf,List.length_cons,List.length_nil,Nat.reduceAdd,Nat.reduceSub,kAV,Array.replicate_zero,kBh,kAP,List.nil_append,List.cons_append]
 gi_wp2_with (first
  | (gi_at_call 112;refine (Tryz.maps_Keys_112 _ _).mono ?_;rintro e w' ⟨rfl,rfl⟩)
  | (gi_at_call 111;refine hs.mono ?_;rintro e w' ⟨v,ss,rfl,hS,hrow,hnil,hb⟩))
 go_ret;unfold zGp;refine⟨v,ss,rfl,hS,by rwa [kAC] at hrow,hnil,?_⟩;exact ((kA3 _ w).alloc (kA2 _) _).trans (hb.mono kCY)
end Go.Proofs.YtjaobihcdkjmbaaGreatDoor
end
section
namespace Go.Proofs.YtjaobihcdkjmbaaGreatDoor
open Go.RowKit Go.Maps Go.WideShapes Go.Proofs.YtjaobihcdkjmbaaGreatDoorW.PrintWords Go.Proofs.YtjaobihcdkjmbaaGreatDoor.PReadTokens
mutual
/-- An expression with another one in the place of a name;none if a name would be bound. -/
def replS (name:ByteArray) (y:S31) (T:DataW Unit):S31→Option S31
 | ⟨op,num,nm,size,l⟩=>if op=1∧nm=name then some y else (zEy name y T op nm 0 l).map (fun l'=>⟨op,num,nm,size,l'⟩)
def zEy (name:ByteArray) (y:S31) (T:DataW Unit) (op:Int) (nm:ByteArray):Nat→List S31→Option (List S31)
 | _,[]=>some []
 | i,a :: l =>
  match (if zCY op i=true∧nm=name then some a else if zCY op i=true∧has T (nmL nm)=true∧has (zEK a) (nmL name)=true then none else replS name y T a) with
  | none=>none
  | some b=>(zEy name y T op nm (i+1) l).map (fun l'=>b :: l')
end
def zDM (name:ByteArray) (y:S31) (T:DataW Unit) (op:Int) (nm:ByteArray) (i:Nat) (a:S31):Option S31 :=
 if zCY op i=true∧nm=name then some a else if zCY op i=true∧has T (nmL nm)=true∧has (zEK a) (nmL name)=true then none else replS name y T a
theorem replS_eq (name:ByteArray) (y:S31) (T:DataW Unit) (x:S31):replS name y T x=if x.f0=1∧x.f2=name then some y else (zEy name y T x.f0 x.f2 0 x.f4).map (fun l'=>⟨x.f0,x.f1,x.f2,x.f3,l'⟩):=by cases x;rw[replS]
theorem replL_none {name:ByteArray} {y:S31} {T:DataW Unit} {op:Int} {nm:ByteArray} {i:Nat} {a:S31} {l:List S31} (h:zDM name y T op nm i a=none):zEy name y T op nm i (a :: l)=none:=by
 unfold zDM at h;rw[zEy,h]
theorem replL_some {name:ByteArray} {y:S31} {T:DataW Unit} {op:Int} {nm:ByteArray} {i:Nat} {a b:S31} {l:List S31} (h:zDM name y T op nm i a=some b):zEy name y T op nm i (a :: l)=(zEy name y T op nm (i+1) l).map (fun l'=>b :: l'):=by
 unfold zDM at h;rw[zEy,h]
theorem replL_nil (name:ByteArray) (y:S31) (T:DataW Unit) (op:Int) (nm:ByteArray) (i:Nat):zEy name y T op nm i []=some []:=by rw[zEy]
end Go.Proofs.YtjaobihcdkjmbaaGreatDoor
end
