/- What can be read as an expression is printed as a text that reads as the same, and is printed as itself: for every argument; a part of its proof. -/
import Derived.Test.YtjaobihcdkjmbaaGreatDoorDa
import Derived.Test.YtjaobihcdkjmbaaGreatDoorDb
import Derived.Test.YtjaobihcdkjmbaaGreatDoorD7
import Derived.Test.YtjaobihcdkjmbaaGreatDoorD10
import Derived.Test.YtjaobihcdkjmbaaGreatDoorD16
import Derived.Test.YtjaobihcdkjmbaaGreatDoorD17
import Derived.Test.YtjaobihcdkjmbaaGreatDoorD19
import Derived.Test.YtjaobihcdkjmbaaGreatDoorD25
import Derived.Test.YtjaobihcdkjmbaaGreatDoorD26
import Derived.Test.YtjaobihcdkjmbaaGreatDoorD29
set_option linter.unusedVariables false
set_option linter.unusedSimpArgs false
namespace Go.Proofs.YtjaobihcdkjmbaaGreatDoor.PReadTokens
end Go.Proofs.YtjaobihcdkjmbaaGreatDoor.PReadTokens
namespace Go.Proofs.YtjaobihcdkjmbaaGreatDoorW.PrintWords
end Go.Proofs.YtjaobihcdkjmbaaGreatDoorW.PrintWords
section
namespace Go.Proofs.YtjaobihcdkjmbaaGreatDoor
open Go.RowKit Go.Proofs.YtjaobihcdkjmbaaGreatDoorW.PrintWords Go.Proofs.YtjaobihcdkjmbaaGreatDoor.PReadTokens
section
theorem chk_one {s:ByteArray} (h:zCp s=true) (hs:s.size≤400):chkR ⟨s,⟨#[49]⟩⟩=0:=by
 have ht:=zDz s;have e0:zC0 s=0:=by unfold zC0;rw[kA9 kDL,kA9 kD4]
 have e1:zC0 ⟨#[49]⟩=0:=kD5
 have e2:negB ⟨#[49]⟩=false:=rfl;have e3:(⟨#[49]⟩:ByteArray)≠⟨#[48]⟩:=by intro e;injection e with e;exact absurd e kD7
 have e4:numV ⟨#[49]⟩=1:=kD5
 unfold chkR;simp only[e0,e1,e2,e4];rw[kA9 (by simp[e3]),kA9 kD6,kAa kD6]
section
variable {st:Nat→Tk} (hst:∀n,TkOk (st n)) {L:Nat}
include hst
theorem gives_unit {r:S28} (h1:chkR r=0) (h2:negB r.f0=false) (n:Nat):zBV OkX (unitI st r n) :=
 zAG (fun h=>zB8 (zE6 (.inl ⟨rfl,h1,h2,.inr ((hst n).unit h),rfl,rfl⟩) (fun a h=>by cases h))) (fun _=>zB8 (zE6 (.inl ⟨rfl,h1,h2,.inl rfl,rfl,rfl⟩) (fun a h=>by cases h)))
theorem gives_lit {num:ByteArray} (hf:zCp num=true∧negB num=false∧num.size≤400) (n:Nat):zBV OkX (litI st chkR num n) :=
 zAG (fun _=>zAG (fun h=>gives_unit hst h.2.2 hf.2.1 _) (fun _=>zBF _)) (fun _=>gives_unit hst (chk_one hf.1 hf.2.2) hf.2.1 _)
omit hst in
theorem zEm {α:Type} {P:α→Prop} (cl:ByteArray) {x:α} (h:P x) (n:Nat):zBV P (zDv st cl x n):=zAG (fun _=>zB8 h) (fun _=>zBF _)
omit hst in
theorem zCN {ex:Nat→RI S31} (hex:∀n,zBV OkX (ex n)) (x:ByteArray) (n:Nat):zBV OkX (zEt st ex x n):=zAG (fun _=>hex _) (fun _=>zBF _)
omit hst in
theorem zG3 (lo hi:Int) (n:Nat):zBV (fun v=>lo≤v∧v≤hi) (numI st lo hi n):=by
 unfold numI;split
 ·exact zAG (fun h=>zB8 h.2) (fun _=>zBF _)
 ·exact zBF _
omit hst in
theorem gives_list {ex:Nat→RI S31} (hex:∀n,zBV OkX (ex n)) (cl:ByteArray) (k:Nat):∀(acc:List S31) (n:Nat),acc.length+k=8→(∀x∈acc,OkX x)→zBV (fun xs=>(∀x∈xs,OkX x)∧1≤xs.length∧xs.length≤8) (listI st ex cl k acc n):=by
 induction k with
 | zero=>intro acc n _ _;exact zBF _
 | succ k ih =>
  intro acc n h hacc;refine zAx (hex n) (fun x m hx=>?_);have hall:∀y∈acc++[x],OkX y:=fun y hy=>by
   rcases kC2.1 hy with hy | hy
   ·exact hacc y hy
   ·rw[kBt] at hy;rw[hy];exact hx
  have hl:(acc++[x]).length=acc.length+1:=kD6
  exact zAG (fun _=>ih _ _ kD4 hall) (fun _=>zEm _ ⟨hall,kD4,kD4⟩ _)
theorem gives_atom {ex:Nat→RI S31} (hex:∀n,zBV OkX (ex n)) (n:Nat):zBV OkX (zFn st chkR ex n):=by
 refine zAG (fun h=>gives_lit hst ((hst n).num h) _) (fun _=>zAG (fun h0=>?_) (fun _=>zAG (fun _=>zAx (hex _) (fun x m hx=>zEm _ hx _)) (fun _=>zAG (fun _=>?_) (fun _=>zBF _))))
 ·have hn:=(hst n).name h0;refine zAG (fun _=>zAG (fun _=>zB8 (zE6 (.inr (.inr (.inr (.inr (.inr (.inr (.inr (.inr (.inr ⟨rfl,rfl,hn,rfl,kD7⟩))))))))) (fun a h=>by cases h))) (fun _=>?_)) (fun _=>zB8 (zE6 (.inr (.inl ⟨rfl,rfl,hn,rfl,rfl⟩)) (fun a h=>by cases h)));exact zAx (gives_list hex _ 8 [] _ rfl (fun x h=>by cases h)) (fun xs m hx=>zB8 (zE6 (.inr (.inr (.inr (.inr (.inr (.inr (.inr (.inr (.inr ⟨rfl,rfl,hn,rfl,hx.2.2⟩))))))))) hx.1))
 ·exact zAx (gives_list hex _ 8 [] _ rfl (fun x h=>by cases h)) (fun xs m hx=>zB8 (zE6 (.inr (.inr (.inr (.inr (.inr (.inl ⟨rfl,rfl,rfl,rfl,hx.2⟩)))))) hx.1))
omit hst in
theorem okTwoX (op:Int) (h:op=3∨op=4∨op=5∨op=6∨op=9) {a b:S31} (ha:OkX a) (hb:OkX b):OkX (twoX op a b) :=
 zE6 (.inr (.inr (.inr (.inl ⟨h,rfl,rfl,rfl,rfl⟩)))) (fun x hx=>by simp only[kAO,kBc,kCm] at hx;rcases hx with rfl | rfl;exact ha;exact hb)
omit hst in
theorem okOneX {op size:Int} {name:ByteArray} {a:S31} (h:nodeG op z28 name size 1) (ha:OkX a):OkX ⟨op,z28,name,size,[a]⟩ :=
 zE6 h (fun x hx=>by rw[kBt] at hx;rw[hx];exact ha)
theorem gives_element {ex:Nat→RI S31} (hex:∀n,zBV OkX (ex n)) (n:Nat):zBV OkX (zBw st chkR L ex n):=by
 refine zAx (gives_atom hst hex n) (fun x m hx=>?_);have key:∀k (x:S31) m,OkX x→zBV OkX (zB5 st ex k x m):=by
  intro k
  induction k with
  | zero=>intro x m hx;exact zB8 hx
  | succ k ih=>intro x m hx;exact zAG (fun _=>zAx (hex _) (fun y j hy=>zAx (zEm _ hy _) (fun y j hy=>ih _ _ (okTwoX 9 kD6 hx hy)))) (fun _=>zB8 hx)
 exact key _ _ _ hx
theorem zEl {ex:Nat→RI S31} (hex:∀n,zBV OkX (ex n)) (n:Nat):zBV OkX (zCw st chkR L ex n) :=
 zAx (gives_element hst hex n) (fun x m hx=>zAG (fun _=>zAG
  (fun _=>zAx (zG3 1 9 _) (fun v j hv=>zB8 (okOneX (.inr (.inr (.inr (.inr (.inl ⟨rfl,rfl,rfl,⟨kD4,kD4⟩,rfl⟩))))) hx)))
  (fun _=>zAx (zG3 0 9 _) (fun v j hv=>zB8 (okOneX (.inr (.inr (.inr (.inr (.inl ⟨rfl,rfl,rfl,⟨kD4,kD4⟩,rfl⟩))))) hx)))) (fun _=>zB8 hx))
theorem zCD {ex:Nat→RI S31} (hex:∀n,zBV OkX (ex n)) (n:Nat):zBV OkX (zBf st chkR L ex n):=by
 refine zAx (zEl hst hex n) (fun x m hx=>?_);have key:∀k (x:S31) m,OkX x→zBV OkX (zAY st chkR L ex k x m):=by
  intro k
  induction k with
  | zero=>intro x m hx;exact zB8 hx
  | succ k ih=>intro x m hx;exact zAG (fun _=>zAx (zEl hst hex _) (fun y j hy=>ih _ _ (okTwoX 5 kD6 hx hy))) (fun _=>zAG (fun _=>zAx (zEl hst hex _) (fun y j hy=>ih _ _ (okTwoX 6 kD6 hx hy))) (fun _=>zB8 hx))
 exact key _ _ _ hx
theorem zF6 {ex:Nat→RI S31} (hex:∀n,zBV OkX (ex n)) (n:Nat):zBV OkX (zDw st chkR L ex n):=by
 have key:∀k (x:S31) m,OkX x→zBV OkX (zBk st chkR L ex k x m):=by
  intro k
  induction k with
  | zero=>intro x m hx;exact zB8 hx
  | succ k ih=>intro x m hx;exact zAG (fun _=>zAx (zCD hst hex _) (fun y j hy=>ih _ _ (okTwoX 3 kD6 hx hy))) (fun _=>zAG (fun _=>zAx (zCD hst hex _) (fun y j hy=>ih _ _ (okTwoX 4 kD6 hx hy))) (fun _=>zB8 hx))
 exact zAG (fun _=>zAx (zCD hst hex _) (fun x m hx=>key _ _ _ (okOneX (.inr (.inr (.inl ⟨rfl,rfl,rfl,rfl,rfl⟩))) hx))) (fun _=>zAx (zCD hst hex _) (fun x m hx=>key _ _ _ hx))
theorem gives_loop {ex:Nat→RI S31} (hex:∀n,zBV OkX (ex n)) (op:Int) (ho:op=10∨op=11) (n:Nat):zBV OkX (loopI st ex op n) :=
 zAG (fun h=>zAG (fun _=>zAx (zG3 1 99 _) (fun v m hv=>zAx (zCN hex _ _) (fun x j hx=>zB8 (okOneX (.inr (.inr (.inr (.inr (.inr (.inr (.inl ⟨ho,rfl,(hst n).name h,hv,rfl⟩))))))) hx)))) (fun _=>zBF _)) (fun _=>zBF _)
theorem gives_expr:∀(k n:Nat),zBV OkX (zAW st chkR L k n):=by
 intro k
 induction k with
 | zero=>intro n;exact zBF _
 | succ k ih =>
  intro n;refine zAG (fun _=>?_) (fun _=>zAG (fun _=>?_) (fun _=>zAG (fun _=>gives_loop hst ih 10 (.inl rfl) _) (fun _=>zAG (fun _=>gives_loop hst ih 11 (.inr rfl) _) (fun _=>zF6 hst ih n))))
  ·refine zAG (fun h=>zAx (zCN ih _ _) (fun a m ha=>zAx (zCN ih _ _) (fun b j hb=>zB8 ?_))) (fun _=>zBF _);exact zE6 (.inr (.inr (.inr (.inr (.inr (.inr (.inr (.inr (.inl ⟨rfl,rfl,(hst _).name h,rfl,rfl⟩))))))))) (fun x hx=>by simp only[kAO,kBc,kCm] at hx;rcases hx with rfl | rfl;exact ha;exact hb)
  ·refine zAx (zF6 hst ih _) (fun a n1 ha=>zAx (zCN (fun n=>zF6 hst ih n) _ _) (fun b n2 hb=>zAx (zCN ih _ _) (fun c n3 hc=>zAx (zCN ih _ _) (fun d n4 hd=>zB8 ?_))));exact zE6 (.inr (.inr (.inr (.inr (.inr (.inr (.inr (.inl ⟨rfl,rfl,rfl,rfl,rfl⟩)))))))) (fun x hx=>by simp only[kAO,kBc,kCm] at hx;rcases hx with rfl | rfl | rfl | rfl;exact ha;exact hb;exact hc;exact hd)
end
end
end Go.Proofs.YtjaobihcdkjmbaaGreatDoor
end
