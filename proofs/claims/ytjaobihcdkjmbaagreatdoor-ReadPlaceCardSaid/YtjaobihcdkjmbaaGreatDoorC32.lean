/- The law ReadPlace answers true for every argument; a part of its proof. -/
import Derived.Test.YtjaobihcdkjmbaaGreatDoorCa
import Derived.Test.YtjaobihcdkjmbaaGreatDoorCb
import Derived.Test.YtjaobihcdkjmbaaGreatDoorC0
import Derived.Test.YtjaobihcdkjmbaaGreatDoorC7
import Derived.Test.YtjaobihcdkjmbaaGreatDoorC9
import Derived.Test.YtjaobihcdkjmbaaGreatDoorC12
import Derived.Test.YtjaobihcdkjmbaaGreatDoorC15
import Derived.Test.YtjaobihcdkjmbaaGreatDoorC17
import Derived.Test.YtjaobihcdkjmbaaGreatDoorC27
set_option linter.unusedVariables false
set_option linter.unusedSimpArgs false
namespace Go.Proofs.YtjaobihcdkjmbaaGreatDoor.PReadTokens
end Go.Proofs.YtjaobihcdkjmbaaGreatDoor.PReadTokens
namespace Go.Proofs.YtjaobihcdkjmbaaGreatDoorW.PrintWords
end Go.Proofs.YtjaobihcdkjmbaaGreatDoorW.PrintWords
set_option maxRecDepth 100000
set_option maxHeartbeats 2000000
section
namespace Go.Proofs.YtjaobihcdkjmbaaGreatDoor
open Go.RowKit Go.Proofs.YtjaobihcdkjmbaaGreatDoorW.PrintWords Go.Proofs.YtjaobihcdkjmbaaGreatDoor.PReadTokens
section
def High {α:Type} (k:Nat):RI α→Prop
 | .error j=>k≤j
 | .ok (_,n)=>k≤n
theorem High.le {α:Type} {k m:Nat} {r:RI α} (h:High k r) (hm:m≤k):High m r:=by
 cases r with
 | error j=>exact kAz hm h
 | ok p=>exact kAz hm h
theorem zAv {α β:Type} {k:Nat} {r:RI α} {f:α→Nat→RI β} (h:High k r) (hf:∀x n,k≤n→High n (f x n)):High k (zBE r f):=by
 cases r with
 | error j=>exact h
 | ok p=>exact (hf p.1 p.2 h).le h
theorem zAX {α:Type} {k:Nat} {c:Prop} [Decidable c] {r s:RI α} (h1:High k r) (h2:High k s):High k (if c then r else s):=by
 split
 ·exact h1
 ·exact h2
theorem zAz {α:Type} {k n:Nat} {x:α} (h:k≤n):High k (.ok (x,n):RI α):=h
theorem zCa {α:Type} {k n:Nat} (h:k≤n):High k (.error n:RI α):=h
section
variable (st:Nat→Tk) (chk:S28→Int) (L:Nat)
theorem zBm {α:Type} (cl:ByteArray) (x:α) (n:Nat):High n (zEO st cl x n):=zAX (zAz kCW) (zCa kCW)
theorem zD3 (lo hi:Int) (n:Nat):High n (numI st lo hi n):=by
 unfold numI;split
 ·exact zAX (zAz kCW) (zCa kCW)
 ·exact zCa kCW
theorem zEp (r:S28) (n:Nat):High n (unitI st r n):=zAX (zAz kCW) (zAz kCW)
theorem den_high (num:ByteArray) (n:Nat):High n (denI st chk num n):=zAX ((zEp st _ _).le kCW) (zCa kCW)
theorem lit_high (num:ByteArray) (n:Nat):High n (litI st chk num n):=zAX ((den_high st chk _ _).le kCW) (zEp st _ _)
variable {ex:Nat→RI S31} (h:∀n,High n (ex n))
include h
theorem zAU (x:ByteArray) (n:Nat):High n (zDG st ex x n):=zAX ((h _).le kCW) (zCa kCW)
theorem zDl (cl:ByteArray) (k:Nat):∀(acc:List S31) (n:Nat),High n (listI st ex cl k acc n):=by
 induction k with
 | zero=>intro acc n;exact zCa (kA2 _)
 | succ k ih=>intro acc n;exact zAv (h n) fun x m _=>zAX ((ih _ _).le kCW) (zBm st _ _ _)
theorem zGh (nm:ByteArray) (n:Nat):High n (argsI st ex nm n):=zAX (zAz kCW) (zAv (zDl st h _ _ _ _) fun _ _ _=>zAz (kA2 _))
theorem zFW (nm:ByteArray) (n:Nat):High n (nameI st ex nm n):=zAX ((zGh st h _ _).le kCW) (zAz (kA2 _))
theorem zEQ (n:Nat):High n (atomI st chk ex n) :=
 zAX ((lit_high st chk _ _).le kCW) (zAX ((zFW st h _ _).le kCW) (zAX ((zAv (h _) fun x m _=>zBm st _ x m).le kCW)
  (zAX ((zAv (zDl st h _ _ _ _) fun _ _ _=>zAz (kA2 _)).le kCW) (zCa (kA2 _)))))
theorem zB8 (k:Nat):∀(x:S31) (n:Nat),High n (zCt st ex k x n):=by
 induction k with
 | zero=>intro x n;exact zAz (kA2 _)
 | succ k ih=>intro x n;exact zAX ((zAv (h _) fun y m _=>zAv (zBm st _ y m) fun y m _=>ih _ _).le kCW) (zAz (kA2 _))
theorem zFo (n:Nat):High n (zDz st chk L ex n):=zAv (zEQ st chk h n) fun x m _=>zB8 st h L x m
omit h in
theorem zG6 (x:S31) (n:Nat):High n (expoI st x n) :=
 zAX ((zAv (zD3 st _ _ _) fun _ _ _=>zAz (kA2 _)).le kCW) (zAv (zD3 st _ _ _) fun _ _ _=>zAz (kA2 _))
omit h in
theorem zCo (x:S31) (n:Nat):High n (zF1 st x n):=zAX ((zG6 st x _).le kCW) (zAz (kA2 _))
theorem zDh (n:Nat):High n (zEA st chk L ex n):=zAv (zFo st chk L h n) fun x m _=>zCo st x m
theorem zB7 (k:Nat):∀(x:S31) (n:Nat),High n (zC4 st chk L ex k x n):=by
 induction k with
 | zero=>intro x n;exact zAz (kA2 _)
 | succ k ih=>intro x n;exact zAX ((zAv (zDh st chk L h _) fun y m _=>ih _ _).le kCW) (zAX ((zAv (zDh st chk L h _) fun y m _=>ih _ _).le kCW) (zAz (kA2 _)))
theorem zBF (n:Nat):High n (zCj st chk L ex n):=zAv (zDh st chk L h n) fun x m _=>zB7 st chk L h L x m
theorem zAV (k:Nat):∀(x:S31) (n:Nat),High n (zBS st chk L ex k x n):=by
 induction k with
 | zero=>intro x n;exact zAz (kA2 _)
 | succ k ih=>intro x n;exact zAX ((zAv (zBF st chk L h _) fun y m _=>ih _ _).le kCW) (zAX ((zAv (zBF st chk L h _) fun y m _=>ih _ _).le kCW) (zAz (kA2 _)))
theorem zC3 (n:Nat):High n (sumsI st chk L ex n) :=
 zAX ((zAv (zBF st chk L h _) fun x m _=>zAV st chk L h L _ m).le kCW) (zAv (zBF st chk L h _) fun x m _=>zAV st chk L h L _ m)
theorem loop4_high (op:Int) (nm:ByteArray) (n:Nat):High n (loopI4 st ex op nm n):=zAv (zD3 st _ _ _) fun v m _=>zAv (zAU st h _ m) fun x j _=>zAz (kA2 _)
theorem zF5 (op:Int) (nm:ByteArray) (n:Nat):High n (loopI3 st ex op nm n):=zAX ((loop4_high st h _ _ _).le kCW) (zCa kCW)
theorem zEH (op:Int) (n:Nat):High n (loopI st ex op n):=zAX ((zF5 st h _ _ _).le kCW) (zCa kCW)
theorem let_high (n:Nat):High n (lettI st ex n) :=
 zAX (High.le (k:=n+1) (zAv (zAU st h _ _) fun a m _=>zAv (zAU st h _ m) fun b j _=>zAz (kA2 _)) kCW) (zCa kCW)
theorem if3_high (a b c:S31) (m:Nat):High m (zBE (zDG st ex ⟨#[101,108,115,101]⟩ m) fun d n4=>(.ok (⟨12,z28,⟨#[]⟩,0,[a,b,c,d]⟩,n4):RI S31)):=zAv (zAU st h _ m) fun x j _=>zAz (kA2 _)
theorem if2_high (a b:S31) (m:Nat):High m (zBE (zDG st ex ⟨#[116,104,101,110]⟩ m) fun c n3=>zBE (zDG st ex ⟨#[101,108,115,101]⟩ n3) fun d n4=>(.ok (⟨12,z28,⟨#[]⟩,0,[a,b,c,d]⟩,n4):RI S31)):=zAv (zAU st h _ m) fun c j _=>if3_high st h a b c j
theorem if1_high (a:S31) (m:Nat):High m (zBE (zDG st (sumsI st chk L ex) ⟨#[60]⟩ m) fun b n2=>zBE (zDG st ex ⟨#[116,104,101,110]⟩ n2) fun c n3=>zBE (zDG st ex ⟨#[101,108,115,101]⟩ n3) fun d n4=>(.ok (⟨12,z28,⟨#[]⟩,0,[a,b,c,d]⟩,n4):RI S31)) :=
 zAv (zAU st (zC3 st chk L h) _ m) fun b j _=>if2_high st h a b j
theorem if_high (n:Nat):High n (ifI st chk L ex n):=zAv (zC3 st chk L h n) fun a n1 _=>if1_high st chk L h a n1
theorem zFa (n:Nat):High n (exprBI st chk L ex n) :=
 zAX ((let_high st h _).le kCW) (zAX ((if_high st chk L h _).le kCW) (zAX ((zEH st h _ _).le kCW) (zAX ((zEH st h _ _).le kCW) (zC3 st chk L h _))))
omit h in
theorem zDp (k:Nat):∀n,High n (exprI st chk L k n):=by
 induction k with
 | zero=>intro n;exact zCa (kA2 _)
 | succ k ih=>intro n;exact zFa st chk L ih n
end
def Loc {α:Type} (k:Nat) (r r':RI α):Prop:=r=r'∨(High k r∧High k r')
theorem Loc.refl {α:Type} {k:Nat} (r:RI α):Loc k r r:=.inl rfl
theorem zF6 {α:Type} {k n:Nat} {r r':RI α} (hn:k≤n) (h:High n r) (h':High n r'):Loc k r r':=.inr ⟨h.le hn,h'.le hn⟩
theorem zAO {α β:Type} {k:Nat} {r r':RI α} {f f':α→Nat→RI β} {n0:Nat} (hb:High n0 r) (h:Loc k r r') (hf:∀x n,n0≤n→n<k→Loc k (f x n) (f' x n)) (h1:∀x n,High n (f x n)) (h2:∀x n,High n (f' x n)):Loc k (zBE r f) (zBE r' f'):=by
 rcases h with rfl | ⟨a,b⟩
 ·cases r with
  | error j=>exact .inl rfl
  | ok p =>
   by_cases hp:p.2<k
   ·exact hf p.1 p.2 hb hp
   ·exact zF6 kCW (h1 p.1 p.2) (h2 p.1 p.2)
 ·refine .inr ⟨?_,?_⟩
  ·cases r with
   | error j=>exact a
   | ok p=>exact (h1 p.1 p.2).le a
  ·cases r' with
   | error j=>exact b
   | ok p=>exact (h2 p.1 p.2).le b
theorem zBw {α:Type} {k:Nat} {c c':Prop} [Decidable c] [Decidable c'] {r s r' s':RI α} (hc:c↔c') (h1:Loc k r r') (h2:Loc k s s'):Loc k (if c then r else s) (if c' then r' else s'):=by
 by_cases h:c
 ·rw[kAb h,kAb (hc.1 h)];exact h1
 ·rw[kAa h,kAa (fun e=>h (hc.2 e))];exact h2
theorem near {α:Type} {k n:Nat} {r r':RI α} (h:High n r) (h':High n r') (hn:n<k→Loc k r r'):Loc k r r':=by
 by_cases hk:n<k
 ·exact hn hk
 ·exact zF6 kCW h h'
section
variable {st st':Nat→Tk} {chk:S28→Int} {k lo L L':Nat} (hs:∀n,n<k→st n=st' n)
include hs
theorem sk_loc {n:Nat} (hn:n<k) (x:ByteArray):skI st n x=skI st' n x:=by unfold skI;rw[hs n hn]
theorem zBM {n:Nat} (hn:n<k) (x:ByteArray):(skI st n x=true)↔(skI st' n x=true):=by rw[sk_loc hs hn]
theorem zGb {α:Type} (cl:ByteArray) (x:α) (n:Nat):Loc k (zEO st cl x n) (zEO st' cl x n) :=
 near (zBm st cl x n) (zBm st' cl x n) fun hn=>zBw (zBM hs hn _) (.refl _) (.refl _)
theorem num_loc (a b:Int) (n:Nat):Loc k (numI st a b n) (numI st' a b n) :=
 near (zD3 st a b n) (zD3 st' a b n) fun hn=>.inl (by unfold numI;rw[hs n hn])
theorem unit_loc (r:S28) (n:Nat):Loc k (unitI st r n) (unitI st' r n) :=
 near (zEp st r n) (zEp st' r n) fun hn=>.inl (by unfold unitI;rw[hs n hn])
theorem den_loc (num:ByteArray) (n:Nat):Loc k (denI st chk num n) (denI st' chk num n) :=
 near (den_high st chk num n) (den_high st' chk num n) fun hn=>by
  unfold denI;rw[hs n hn];exact zBw Iff.rfl (unit_loc hs _ _) (.refl _)
theorem lit_loc (num:ByteArray) (n:Nat):Loc k (litI st chk num n) (litI st' chk num n) :=
 near (lit_high st chk num n) (lit_high st' chk num n) fun hn=>zBw (zBM hs hn _) (den_loc hs _ _) (unit_loc hs _ _)
theorem expo_loc (x:S31) (n:Nat):Loc k (expoI st x n) (expoI st' x n) :=
 near (zG6 st x n) (zG6 st' x n) fun hn =>
  zBw (zBM hs hn _) (zAO (zD3 st _ _ _) (num_loc hs _ _ _) (fun _ _ _ _=>.refl _) (fun _ _=>zAz (kA2 _)) (fun _ _=>zAz (kA2 _)))
   (zAO (zD3 st _ _ _) (num_loc hs _ _ _) (fun _ _ _ _=>.refl _) (fun _ _=>zAz (kA2 _)) (fun _ _=>zAz (kA2 _)))
theorem powTail_loc (x:S31) (n:Nat):Loc k (zF1 st x n) (zF1 st' x n) :=
 near (zCo st x n) (zCo st' x n) fun hn=>zBw (zBM hs hn _) (expo_loc hs x _) (.refl _)
variable {ex ex':Nat→RI S31} (h:∀n,High n (ex n)) (h':∀n,High n (ex' n)) (hx:∀n,lo<n→Loc k (ex n) (ex' n))
include h h' hx
theorem zEr (x:ByteArray) (n:Nat) (hl:lo≤n):Loc k (zDG st ex x n) (zDG st' ex' x n) :=
 near (zAU st h x n) (zAU st' h' x n) fun hn=>zBw (zBM hs hn _) (hx _ kCW) (.refl _)
theorem list_loc (cl:ByteArray) (j:Nat):∀(acc:List S31) (n:Nat),lo<n→Loc k (listI st ex cl j acc n) (listI st' ex' cl j acc n):=by
 induction j with
 | zero=>intro acc n _;exact .refl _
 | succ j ih =>
  intro acc n hl;refine zAO (h n) (hx n hl) (fun x m h0 hm=>zBw (by rw[sk_loc hs hm]) (ih _ _ kCW) (zGb hs _ _ _)) (fun x m=>?_) (fun x m=>?_)
  ·exact zAX ((zDl st h _ _ _ _).le kCW) (zBm st _ _ _)
  ·exact zAX ((zDl st' h' _ _ _ _).le kCW) (zBm st' _ _ _)
theorem args_loc (nm:ByteArray) (n:Nat) (hl:lo<n):Loc k (argsI st ex nm n) (argsI st' ex' nm n) :=
 near (zGh st h nm n) (zGh st' h' nm n) fun hn=>zBw (zBM hs hn _) (.refl _) (zAO (zDl st h _ _ _ _) (list_loc hs h h' hx _ _ _ _ hl) (fun _ _ _ _=>.refl _) (fun _ _=>zAz (kA2 _)) (fun _ _=>zAz (kA2 _)))
theorem name_loc (nm:ByteArray) (n:Nat) (hl:lo≤n):Loc k (nameI st ex nm n) (nameI st' ex' nm n) :=
 near (zFW st h nm n) (zFW st' h' nm n) fun hn=>zBw (zBM hs hn _) (args_loc hs h h' hx _ _ kCW) (.refl _)
theorem atom_loc (n:Nat) (hl:lo≤n):Loc k (atomI st chk ex n) (atomI st' chk ex' n) :=
 near (zEQ st chk h n) (zEQ st' chk h' n) fun hn=>by
  refine zBw kDy (by rw[hs n hn];exact lit_loc hs _ _) (zBw kDy (by rw[hs n hn];exact name_loc hs h h' hx _ _ kCW) (zBw (zBM hs hn _) ?_ (zBw (zBM hs hn _) ?_ (.refl _))))
  ·exact zAO (h _) (hx _ kCW) (fun x m _ _=>zGb hs _ _ _) (fun x m=>zBm st _ x m) (fun x m=>zBm st' _ x m)
  ·exact zAO (zDl st h _ _ _ _) (list_loc hs h h' hx _ _ _ _ kCW) (fun _ _ _ _=>.refl _) (fun _ _=>zAz (kA2 _)) (fun _ _=>zAz (kA2 _))
theorem elemLoop_loc (j:Nat):∀(j':Nat) (x:S31) (n:Nat),lo≤n→k≤n+j→k≤n+j'→Loc k (zCt st ex j x n) (zCt st' ex' j' x n):=by
 induction j with
 | zero=>intro j' x n _ h1 h2;exact zF6 h1 (zAz (kA2 _)) (zB8 st' h' _ _ _)
 | succ j ih =>
  intro j' x n hl h1 h2;refine near (zB8 st h _ _ _) (zB8 st' h' _ _ _) fun hn=>?_
  obtain⟨j',rfl⟩:∃i,j'=i+1:=⟨j'-1,kCW⟩;refine zBw (zBM hs hn _) (zAO (h _) (hx _ kCW) (fun y m h0 hm=>?_) (fun y m=>?_) (fun y m=>?_)) (.refl _)
  ·refine zAO (zBm st _ y m) (zGb hs _ y m) (fun y m' h1 h2=>ih j' _ m' kCW kCW kCW) (fun y m=>zB8 st h _ _ _) (fun y m=>zB8 st' h' _ _ _)
  ·exact zAv (zBm st _ y m) fun y m _=>zB8 st h _ _ _
  ·exact zAv (zBm st' _ y m) fun y m _=>zB8 st' h' _ _ _
variable (hL:k≤lo+L) (hL':k≤lo+L')
include hL hL'
theorem element_loc (n:Nat) (hl:lo≤n):Loc k (zDz st chk L ex n) (zDz st' chk L' ex' n) :=
 zAO (zEQ st chk h n) (atom_loc hs h h' hx n hl) (fun x m _ _=>elemLoop_loc hs h h' hx _ _ _ _ kCW kCW kCW) (fun x m=>zB8 st h _ _ _) (fun x m=>zB8 st' h' _ _ _)
theorem power_loc (n:Nat) (hl:lo≤n):Loc k (zEA st chk L ex n) (zEA st' chk L' ex' n) :=
 zAO (zFo st chk L h n) (element_loc hs h h' hx hL hL' n hl) (fun x m _ _=>powTail_loc hs x m) (fun x m=>zCo st x m) (fun x m=>zCo st' x m)
theorem prodLoop_loc (j:Nat):∀(j':Nat) (x:S31) (n:Nat),lo≤n→k≤n+j→k≤n+j'→Loc k (zC4 st chk L ex j x n) (zC4 st' chk L' ex' j' x n):=by
 induction j with
 | zero=>intro j' x n _ h1 h2;exact zF6 h1 (zAz (kA2 _)) (zB7 st' chk L' h' _ _ _)
 | succ j ih =>
  intro j' x n hl h1 h2;refine near (zB7 st chk L h _ _ _) (zB7 st' chk L' h' _ _ _) fun hn=>?_
  obtain⟨j',rfl⟩:∃i,j'=i+1:=⟨j'-1,kCW⟩;have hp:=power_loc (chk:=chk) hs h h' hx hL hL' (n+1) kCW;have hb:=zDh st chk L h (n+1);exact zBw (zBM hs hn _) (zAO hb hp (fun y m _ _=>ih j' _ m kCW kCW kCW) (fun y m=>zB7 st chk L h _ _ _) (fun y m=>zB7 st' chk L' h' _ _ _))
   (zBw (zBM hs hn _) (zAO hb hp (fun y m _ _=>ih j' _ m kCW kCW kCW) (fun y m=>zB7 st chk L h _ _ _) (fun y m=>zB7 st' chk L' h' _ _ _)) (.refl _))
theorem zEh (n:Nat) (hl:lo≤n):Loc k (zCj st chk L ex n) (zCj st' chk L' ex' n) :=
 zAO (zDh st chk L h n) (power_loc hs h h' hx hL hL' n hl) (fun x m _ _=>prodLoop_loc hs h h' hx hL hL' _ _ _ _ kCW kCW kCW) (fun x m=>zB7 st chk L h _ _ _) (fun x m=>zB7 st' chk L' h' _ _ _)
theorem sumLoop_loc (j:Nat):∀(j':Nat) (x:S31) (n:Nat),lo≤n→k≤n+j→k≤n+j'→Loc k (zBS st chk L ex j x n) (zBS st' chk L' ex' j' x n):=by
 induction j with
 | zero=>intro j' x n _ h1 h2;exact zF6 h1 (zAz (kA2 _)) (zAV st' chk L' h' _ _ _)
 | succ j ih =>
  intro j' x n hl h1 h2;refine near (zAV st chk L h _ _ _) (zAV st' chk L' h' _ _ _) fun hn=>?_
  obtain⟨j',rfl⟩:∃i,j'=i+1:=⟨j'-1,kCW⟩;have hp:=zEh (chk:=chk) hs h h' hx hL hL' (n+1) kCW;have hb:=zBF st chk L h (n+1);exact zBw (zBM hs hn _) (zAO hb hp (fun y m _ _=>ih j' _ m kCW kCW kCW) (fun y m=>zAV st chk L h _ _ _) (fun y m=>zAV st' chk L' h' _ _ _))
   (zBw (zBM hs hn _) (zAO hb hp (fun y m _ _=>ih j' _ m kCW kCW kCW) (fun y m=>zAV st chk L h _ _ _) (fun y m=>zAV st' chk L' h' _ _ _)) (.refl _))
theorem sums_loc (n:Nat) (hl:lo≤n):Loc k (sumsI st chk L ex n) (sumsI st' chk L' ex' n) :=
 near (zC3 st chk L h n) (zC3 st' chk L' h' n) fun hn=>by
  have hl:∀(x:S31) m,lo≤m→Loc k (zBS st chk L ex L x m) (zBS st' chk L' ex' L' x m):=fun x m hm=>sumLoop_loc hs h h' hx hL hL' _ _ _ _ hm kCW kCW
  exact zBw (zBM hs hn _) (zAO (zBF st chk L h _) (zEh hs h h' hx hL hL' _ kCW) (fun x m _ _=>hl _ _ kCW) (fun x m=>zAV st chk L h _ _ _) (fun x m=>zAV st' chk L' h' _ _ _))
   (zAO (zBF st chk L h _) (zEh hs h h' hx hL hL' _ kCW) (fun x m _ _=>hl _ _ kCW) (fun x m=>zAV st chk L h _ _ _) (fun x m=>zAV st' chk L' h' _ _ _))
omit hL hL' in
theorem loop_loc (op:Int) (n:Nat) (hl:lo≤n):Loc k (loopI st ex op n) (loopI st' ex' op n) :=
 near (zEH st h op n) (zEH st' h' op n) fun hn=>by
  refine zBw kDy ?_ (.refl _);rw[hs n hn];refine near (n:=n+1) (zF5 st h _ _ _) (zF5 st' h' _ _ _) fun hn1=>zBw (zBM hs hn1 _) ?_ (.refl _)
  exact zAO (zD3 st _ _ _) (num_loc hs _ _ _) (fun v m _ _=>zAO (zAU st h _ m) (zEr hs h h' hx _ _ kCW) (fun _ _ _ _=>.refl _) (fun _ _=>zAz (kA2 _)) (fun _ _=>zAz (kA2 _)))
   (fun v m=>zAv (zAU st h _ m) fun x j _=>zAz (kA2 _)) (fun v m=>zAv (zAU st' h' _ m) fun x j _=>zAz (kA2 _))
omit hL hL' in
theorem let_loc (n:Nat) (hl:lo≤n):Loc k (lettI st ex n) (lettI st' ex' n) :=
 near (let_high st h n) (let_high st' h' n) fun hn=>by
  refine zBw kDy ?_ (.refl _);rw[hs n hn];exact zAO (zAU st h _ _) (zEr hs h h' hx _ _ kCW) (fun v m _ _=>zAO (zAU st h _ _) (zEr hs h h' hx _ _ kCW) (fun _ _ _ _=>.refl _) (fun _ _=>zAz (kA2 _)) (fun _ _=>zAz (kA2 _)))
   (fun v m=>zAv (zAU st h _ m) fun x j _=>zAz (kA2 _)) (fun v m=>zAv (zAU st' h' _ m) fun x j _=>zAz (kA2 _))
theorem if_loc (n:Nat) (hl:lo≤n):Loc k (ifI st chk L ex n) (ifI st' chk L' ex' n):=by
 refine zAO (zC3 st chk L h n) (sums_loc hs h h' hx hL hL' n hl) (fun a n1 _ _=>?_) (fun a m=>if1_high st chk L h a m) (fun a m=>if1_high st' chk L' h' a m);refine zAO (zAU st (zC3 st chk L h) _ _) (near (zAU st (zC3 st chk L h) _ n1) (zAU st' (zC3 st' chk L' h') _ n1) fun hn1=>zBw (zBM hs hn1 _) (sums_loc hs h h' hx hL hL' _ kCW) (.refl _)) (fun b n2 _ _=>?_) (fun b m=>if2_high st h a b m) (fun b m=>if2_high st' h' a b m);refine zAO (zAU st h _ _) (zEr hs h h' hx _ _ kCW) (fun c n3 _ _=>?_) (fun c m=>if3_high st h a b c m) (fun c m=>if3_high st' h' a b c m);exact zAO (zAU st h _ _) (zEr hs h h' hx _ _ kCW) (fun _ _ _ _=>.refl _) (fun _ _=>zAz (kA2 _)) (fun _ _=>zAz (kA2 _))
theorem exprB_loc (n:Nat) (hl:lo≤n):Loc k (exprBI st chk L ex n) (exprBI st' chk L' ex' n) :=
 near (zFa st chk L h n) (zFa st' chk L' h' n) fun hn =>
  zBw (zBM hs hn _) (let_loc hs h h' hx _ kCW) (zBw (zBM hs hn _) (if_loc hs h h' hx hL hL' _ kCW) (zBw (zBM hs hn _) (loop_loc hs h h' hx _ _ kCW) (zBw (zBM hs hn _) (loop_loc hs h h' hx _ _ kCW) (sums_loc hs h h' hx hL hL' _ hl))))
end
theorem expr_loc {st st':Nat→Tk} (chk:S28→Int) {k L L':Nat} (hs:∀n,n<k→st n=st' n) (hL:k≤L) (hL':k≤L') (K:Nat):∀(K' n:Nat),k≤n+K→k≤n+K'→Loc k (exprI st chk L K n) (exprI st' chk L' K' n):=by
 induction K with
 | zero=>intro K' n h1 h2;exact zF6 (n:=n) kCW (zDp st chk L 0 n) (zDp st' chk L' K' n)
 | succ K ih =>
  intro K' n h1 h2;refine near (zDp st chk L _ n) (zDp st' chk L' _ n) fun hn=>?_
  obtain⟨K',rfl⟩:∃i,K'=i+1:=⟨K'-1,kCW⟩;exact exprB_loc (lo:=n) hs (zDp st chk L K) (zDp st' chk L' K') (fun m hm=>ih K' m kCW kCW) kCW kCW n (kA2 _)
end
theorem wrong_ok (chk:S28→Int) (s:ByteArray) (h:Readable chk s) (at_:Int) (hr:zBN chk s=(z31,at_,1)) (hpl:0≤zBk chk s) (w:World) (hS:Start w) :
  Calls Tryz.prog 45 #[.string s,.int .i64 at_] w fun e w'=>e=.returned (.bool true)∧Below w.heap.size w w':=by
 have hrd:=zDc chk s h w hS (fun hl=>by omega);unfold zBz at hrd;rw[hr] at hrd;simp only at hrd;have heq:(at_==at_)=true:=kCY
 go_enter Tryz.func45,Tryz.ntmps45;go_wp2_with fail;refine hrd.mono ?_;rintro e w1 ⟨v5,rfl,hx,hb1⟩;obtain⟨A,c,hv5,hc1,hc2⟩:=hx.vw.out;obtain rfl:=zCf hv5;have hex:exV z31 (.slice A z31.f4.length c)=.agg #[.int .i64 0,.string ⟨#[]⟩,.string ⟨#[]⟩,.string ⟨#[]⟩,.int .i64 0,.slice A 0 c]:=rfl;rw[hex];clear hx hv5 hc1 hc2;go_wp2;go_ret;exact⟨rfl,hb1.alloc hb1.size _⟩
end Go.Proofs.YtjaobihcdkjmbaaGreatDoor
end
