/- What can be read as an expression is printed as a text that reads as the same, and is printed as itself: for every argument; a part of its proof. -/
import Derived.Test.YtjaobihcdkjmbaaGreatDoorDa
import Derived.Test.YtjaobihcdkjmbaaGreatDoorDb
import Derived.Test.YtjaobihcdkjmbaaGreatDoorD0
import Derived.Test.YtjaobihcdkjmbaaGreatDoorD1
import Derived.Test.YtjaobihcdkjmbaaGreatDoorD7
import Derived.Test.YtjaobihcdkjmbaaGreatDoorD10
import Derived.Test.YtjaobihcdkjmbaaGreatDoorD11
import Derived.Test.YtjaobihcdkjmbaaGreatDoorD13
import Derived.Test.YtjaobihcdkjmbaaGreatDoorD16
import Derived.Test.YtjaobihcdkjmbaaGreatDoorD17
import Derived.Test.YtjaobihcdkjmbaaGreatDoorD19
import Derived.Test.YtjaobihcdkjmbaaGreatDoorD20
import Derived.Test.YtjaobihcdkjmbaaGreatDoorD21
import Derived.Test.YtjaobihcdkjmbaaGreatDoorD23
import Derived.Test.YtjaobihcdkjmbaaGreatDoorD25
import Derived.Test.YtjaobihcdkjmbaaGreatDoorD26
import Derived.Test.YtjaobihcdkjmbaaGreatDoorD29
import Derived.Test.YtjaobihcdkjmbaaGreatDoorD31
import Derived.Test.YtjaobihcdkjmbaaGreatDoorD32
set_option linter.unusedVariables false
set_option linter.unusedSimpArgs false
namespace Go.Proofs.YtjaobihcdkjmbaaGreatDoor.PReadTokens
end Go.Proofs.YtjaobihcdkjmbaaGreatDoor.PReadTokens
namespace Go.Proofs.YtjaobihcdkjmbaaGreatDoorW.PrintLast
end Go.Proofs.YtjaobihcdkjmbaaGreatDoorW.PrintLast
namespace Go.Proofs.YtjaobihcdkjmbaaGreatDoorW.PrintWords
end Go.Proofs.YtjaobihcdkjmbaaGreatDoorW.PrintWords
set_option maxRecDepth 100000
set_option maxHeartbeats 4000000
section
namespace Go.Proofs.YtjaobihcdkjmbaaGreatDoor
open Go.RowKit Go.Proofs.YtjaobihcdkjmbaaGreatDoorW.PrintWords Go.Proofs.YtjaobihcdkjmbaaGreatDoor.PReadTokens
section
theorem head_sum:∀(d:Nat) (x:S31),zAI x≤d→OkX x→1≤levR x.f0→∃t l,zAo x=t :: l∧(Head t∨t=sgTk 45):=by
 intro d
 induction d with
 | zero=>intro x h;rw[zAw] at h;omega
 | succ d ih =>
  intro x hd hok hlev;by_cases h2:2≤levR x.f0
  ·obtain⟨t,l,h1,h2⟩:=head_open _ x (kA2 _) hok h2;exact⟨t,l,h1,.inl h2⟩
  obtain⟨_,hlook,hl⟩:=hok;have hn:=zCT hlook;rw[zAw] at hd;have harg:∀(h:0<x.f4.length),∃t l,zBC (zCy x.f4) 0 1=t :: l∧(Head t∨t=sgTk 45):=by
   intro h;rw[argTk_eq _ 0 h];by_cases hlt:levR (x.f4[0]).f0<1
   ·rw[zDR hlt];exact⟨_,_,rfl,.inl (.inr (.inr (.inl rfl)))⟩
   ·rw[zDc kD4];have:=zBh (kAC h);exact ih _ kD4 (hl _ (kAC h)) kD4
  rw[zDJ];obtain⟨op,num,name,size,l⟩:=x;simp only at hn hlev h2 harg ⊢;have app:∀(a b:List Tk),(∃t l,a=t :: l∧(Head t∨t=sgTk 45))→∃t l,a++b=t :: l∧(Head t∨t=sgTk 45):=by
   rintro a b⟨t,l,rfl,h⟩;exact⟨t,l++b,rfl,h⟩
  rcases hn with⟨rfl,_,_,_,_,hk⟩ | ⟨rfl,_,_,_,hk⟩ | ⟨rfl,_,_,_,hk⟩ | ⟨ho,_,_,_,hk⟩ | ⟨rfl,_,_,_,hk⟩ | ⟨rfl,_,_,_,hk⟩ | ⟨ho,_,_,_,hk⟩ | ⟨rfl,_,_,_,hk⟩ | ⟨rfl,_,_,_,hk⟩ | ⟨rfl,_,_,_,hk⟩
  ·exact absurd kD7 h2
  ·exact absurd kD7 h2
  ·exact⟨_,_,rfl,.inr rfl⟩
  ·rcases ho with rfl | rfl | rfl | rfl | rfl
   ·exact app _ _ (harg kD4)
   ·exact app _ _ (harg kD4)
   ·exact absurd kD7 h2
   ·exact absurd kD7 h2
   ·exact absurd kD7 h2
  ·exact absurd kD7 h2
  ·exact absurd kD7 h2
  ·rcases ho with rfl | rfl<;>exact absurd hlev kD7
  ·exact absurd hlev kD7
  ·exact absurd hlev kD7
  ·exact absurd kD7 h2
section
variable {st:Nat→Tk} {chk:S28→Int} {L N:Nat}
theorem elem_stop (ex:Nat→RI S31) (j:Nat) (x:S31) (n:Nat) (h:skI st n ⟨#[91]⟩=false):zB5 st ex j x n=.ok (x,n):=by
 cases j with
 | zero=>rfl
 | succ j=>unfold zB5;rw[kA9 kDL]
theorem prod_stop (ex:Nat→RI S31) (j:Nat) (x:S31) (n:Nat) (h1:skI st n ⟨#[42]⟩=false) (h2:skI st n ⟨#[47]⟩=false):zAY st chk L ex j x n=.ok (x,n):=by
 cases j with
 | zero=>rfl
 | succ j=>unfold zAY;rw[kA9 kDj,kA9 kDB]
theorem sum_stop (ex:Nat→RI S31) (j:Nat) (x:S31) (n:Nat) (h1:skI st n ⟨#[43]⟩=false) (h2:skI st n ⟨#[45]⟩=false):zBk st chk L ex j x n=.ok (x,n):=by
 cases j with
 | zero=>rfl
 | succ j=>unfold zBk;rw[kA9 kDj,kA9 kDB]
theorem up43 {ex:Nat→RI S31} {j n n':Nat} {x:S31} (h:zBw st chk L ex n=zB5 st ex j x n') (hs:NP (st n')):zCw st chk L ex n=.ok (x,n'):=by
 unfold zCw;rw[h,elem_stop ex j x n' (by rw[zBa];exact hs.br)];show zEk st x n'=_;unfold zEk;rw[kA9 (by rw[zBa,hs.pow];decide)]
theorem up32 {ex:Nat→RI S31} {n n':Nat} {x:S31} (h:zCw st chk L ex n=.ok (x,n')):zBf st chk L ex n=zAY st chk L ex L x n':=by
 unfold zBf;rw[h];rfl
theorem up2 {ex:Nat→RI S31} {j n n':Nat} {x:S31} (h:zBf st chk L ex n=zAY st chk L ex j x n') (hs:ND (st n')):zBf st chk L ex n=.ok (x,n'):=by
 rw[h,prod_stop ex j x n' (by rw[zBa];exact hs.mul) (by rw[zBa];exact hs.div)]
theorem up21 {ex:Nat→RI S31} {j n n':Nat} {x:S31} (h:zBf st chk L ex n=zAY st chk L ex j x n') (hs:ND (st n')) (hh:Head (st n)):zDw st chk L ex n=zBk st chk L ex L x n':=by
 unfold zDw;rw[kA9 (by rw[zBa,hh.sk _ kD7];decide),up2 h hs];rfl
theorem up1 {ex:Nat→RI S31} {j n n':Nat} {x:S31} (h:zDw st chk L ex n=zBk st chk L ex j x n') (hs:NS (st n')):zDw st chk L ex n=.ok (x,n'):=by
 rw[h,sum_stop ex j x n' (by rw[zBa];exact hs.add) (by rw[zBa];exact hs.sub)]
theorem up10 {j n n':Nat} {x:S31} {K:Nat} (h:zDw st chk L (zAW st chk L K) n=zBk st chk L (zAW st chk L K) j x n') (hs:NS (st n')) (hh:Head (st n)∨st n=sgTk 45):zAW st chk L (K+1) n=.ok (x,n'):=by
 have hw:∀w:ByteArray,1<w.data.toList.length→skI st n w=false:=fun w hw=>by
  rw[zBa];rcases hh with hh | hh
  ·exact hh.sk w ⟨fun e=>by rw[e] at hw;simp at hw,fun e=>by rw[e] at hw;simp at hw⟩
  ·rw[hh];unfold skT;rw[kAT];exact .inr (by rw[kAd];exact fun e=>by rw[← e] at hw;simp at hw)
 unfold zAW zG7;rw[kA9 kDM,kA9 kDM,kA9 kDM,kA9 kDM];exact up1 h hs
theorem par_elem {ex:Nat→RI S31} {n m:Nat} {x:S31} (h0:st n=sgTk 40) (hx:ex (n+1)=.ok (x,m)) (hm:st m=sgTk 41):zBw st chk L ex n=zB5 st ex L x (m+1):=by
 have ha:zFn st chk ex n=.ok (x,m+1):=by
  unfold zFn;rw[kA9 (by rw[h0];decide),kA9 (by rw[h0];decide),kAa (by rw[zBa,h0];rfl),hx];show zDv st ⟨#[41]⟩ x m=_;unfold zDv;rw[kAa (by rw[zBa,hm];rfl)]
 unfold zBw;rw[ha];rfl
structure Ends (st:Nat→Tk) (N:Nat):Prop where
 out:∀i,N≤i→(st i).1=-1
theorem Ends.lt (h:Ends st N) {n:Nat} (hn:(st n).1≠-1):n<N:=by
 by_cases hl:n<N
 ·exact hl
 ·exact absurd (h.out n kD4) hn
structure Read4 (st:Nat→Tk) (chk:S28→Int) (L N:Nat) (ex:Nat→RI S31) (x:S31) (n:Nat):Prop where
 pe:Sees st n (tkTk x 4)→NA (st (n+(tkTk x 4).length))→∃j,N<n+(tkTk x 4).length+j∧zBw st chk L ex n=zB5 st ex j x (n+(tkTk x 4).length)
 pp:Sees st n (tkTk x 3)→NP (st (n+(tkTk x 3).length))→zCw st chk L ex n=.ok (x,n+(tkTk x 3).length)
 pd:Sees st n (tkTk x 2)→NP (st (n+(tkTk x 2).length))→∃j,N<n+(tkTk x 2).length+j∧zBf st chk L ex n=zAY st chk L ex j x (n+(tkTk x 2).length)
 ps:Sees st n (tkTk x 1)→ND (st (n+(tkTk x 1).length))→∃j,N<n+(tkTk x 1).length+j∧zDw st chk L ex n=zBk st chk L ex j x (n+(tkTk x 1).length)
def zFo (st:Nat→Tk) (chk:S28→Int) (L N:Nat) (x:S31):Prop :=
 ∀K n,N<n+K→Sees st n (tkTk x 0)→NS (st (n+(tkTk x 0).length))→zAW st chk L K n=.ok (x,n+(tkTk x 0).length)
theorem Read4.ds {ex:Nat→RI S31} {x:S31} {n:Nat} (h:Read4 st chk L N ex x n) (h1:Sees st n (tkTk x 2)) (h2:ND (st (n+(tkTk x 2).length))):zBf st chk L ex n=.ok (x,n+(tkTk x 2).length):=by
 obtain⟨j,_,e⟩:=h.pd h1 h2.toNP;exact up2 e h2
theorem Read4.ss {ex:Nat→RI S31} {x:S31} {n:Nat} (h:Read4 st chk L N ex x n) (h1:Sees st n (tkTk x 1)) (h2:NS (st (n+(tkTk x 1).length))):zDw st chk L ex n=.ok (x,n+(tkTk x 1).length):=by
 obtain⟨j,_,e⟩:=h.ps h1 h2.toND;exact up1 e h2
structure Own (st:Nat→Tk) (chk:S28→Int) (L N:Nat) (x:S31):Prop where
 l4:levR x.f0=4→∀K n,N<n+1+K→Sees st n (zAo x)→NA (st (n+(zAo x).length))→∃j,N<n+(zAo x).length+j∧zBw st chk L (zAW st chk L K) n=zB5 st (zAW st chk L K) j x (n+(zAo x).length)
 l3:levR x.f0=3→∀K n,N<n+1+K→Sees st n (zAo x)→NP (st (n+(zAo x).length))→zCw st chk L (zAW st chk L K) n=.ok (x,n+(zAo x).length)
 l2:levR x.f0=2→∀K n,N<n+1+K→Sees st n (zAo x)→NP (st (n+(zAo x).length))→∃j,N<n+(zAo x).length+j∧zBf st chk L (zAW st chk L K) n=zAY st chk L (zAW st chk L K) j x (n+(zAo x).length)
 l1:levR x.f0=1→∀K n,N<n+1+K→Sees st n (zAo x)→ND (st (n+(zAo x).length))→∃j,N<n+(zAo x).length+j∧zDw st chk L (zAW st chk L K) n=zBk st chk L (zAW st chk L K) j x (n+(zAo x).length)
 l0:levR x.f0=0→∀K n,N<n+1+K→Sees st n (zAo x)→NS (st (n+(zAo x).length))→zAW st chk L (K+1) n=.ok (x,n+(zAo x).length)
theorem lev_cases (op:Int):levR op=0∨levR op=1∨levR op=2∨levR op=3∨levR op=4:=by
 unfold levR
 repeat' split
 all_goals omega
theorem zFG {n:Nat} {l:List Tk} {t:Tk} {r:List Tk} (h:Sees st n l) (e:l=t :: r):st n=t:=by
 rw[e] at h;exact h.1
theorem Own.all {x:S31} (h:Own st chk L N x) (hok:OkX x) (hL:N<L) (hE:Ends st N):(∀K n,N<n+1+K→Read4 st chk L N (zAW st chk L K) x n)∧zFo st chk L N x:=by
 have hl:=lev_cases x.f0;have c3:3≤levR x.f0→∀K n,N<n+1+K→Sees st n (zAo x)→NP (st (n+(zAo x).length))→zCw st chk L (zAW st chk L K) n=.ok (x,n+(zAo x).length):=by
  intro h3 K n hn hs hp;by_cases h4:levR x.f0=4
  ·obtain⟨j,_,e⟩:=h.l4 h4 K n hn hs hp.toNA;exact up43 e hp
  ·exact h.l3 kD4 K n hn hs hp
 have c2:2≤levR x.f0→∀K n,N<n+1+K→Sees st n (zAo x)→NP (st (n+(zAo x).length))→∃j,N<n+(zAo x).length+j∧zBf st chk L (zAW st chk L K) n=zAY st chk L (zAW st chk L K) j x (n+(zAo x).length):=by
  intro h2 K n hn hs hp;by_cases h3:levR x.f0=2
  ·exact h.l2 h3 K n hn hs hp
  ·exact⟨L,kD4,up32 (c3 kD4 K n hn hs hp)⟩
 have c1:1≤levR x.f0→∀K n,N<n+1+K→Sees st n (zAo x)→ND (st (n+(zAo x).length))→∃j,N<n+(zAo x).length+j∧zDw st chk L (zAW st chk L K) n=zBk st chk L (zAW st chk L K) j x (n+(zAo x).length):=by
  intro h1 K n hn hs hp;by_cases h2:levR x.f0=1
  ·exact h.l1 h2 K n hn hs hp
  ·obtain⟨j,_,e⟩:=c2 kD4 K n hn hs hp.toNP;obtain⟨t,r,e2,hh⟩:=head_open _ x (kA2 _) hok kD4;exact⟨L,kD4,up21 e hp (by rw[zFG hs e2];exact hh)⟩
 have hX:zFo st chk L N x:=by
  intro K n hn hs hp;rw[zDA] at hs hp ⊢
  cases K with
  | zero =>
   exfalso;have hpos:∃t r,zAo x=t :: r∧t.1≠-1:=by
    by_cases h1:1≤levR x.f0
    ·obtain⟨t,r,e,hh⟩:=head_sum _ x (kA2 _) hok h1;refine⟨t,r,e,?_⟩;rcases hh with (hh | hh | hh | hh) | hh
     ·omega
     ·omega
     ·rw[hh];decide
     ·rw[hh];decide
     ·rw[hh];decide
    ·have h0:levR x.f0=0:=kD4
     rw[zDJ];have hop:x.f0=13∨x.f0=12∨x.f0=10∨x.f0=11:=by
      unfold levR at h0
      repeat' split at h0
      all_goals first | omega | skip
     rcases hop with e | e | e | e<;>rw[e]<;>exact⟨_,_,rfl,kD7⟩
   obtain⟨t,r,e,ht⟩:=hpos;have:=hE.lt (n:=n) (by rw[zFG hs e];exact ht);omega
  | succ K =>
   by_cases h1:1≤levR x.f0
   ·obtain⟨j,_,e⟩:=c1 h1 K n kD4 hs hp.toND;obtain⟨t,r,e2,hh⟩:=head_sum _ x (kA2 _) hok h1;exact up10 e hp (by rw[zFG hs e2];exact hh)
   ·exact h.l0 kD4 K n kD4 hs hp
 refine⟨fun K n hn=>?_,hX⟩;have cp:Sees st n (sgTk 40 :: (tkTk x 0++[sgTk 41]))→zBw st chk L (zAW st chk L K) n=zB5 st (zAW st chk L K) L x (n+(sgTk 40 :: (tkTk x 0++[sgTk 41])).length):=by
  rintro⟨h0,hs⟩;obtain⟨hs1,hs2,_⟩:=(zBH _ _ _).1 hs;have hx:=hX K (n+1) kD4 hs1 (by rw[hs2];exact ns_sg 41 kD7);have:=par_elem (L:=L) (chk:=chk) h0 hx hs2;rw[this];congr 1;simp only[List.length_cons,kAt,List.length_nil];omega
 have pe:Sees st n (tkTk x 4)→NA (st (n+(tkTk x 4).length))→∃j,N<n+(tkTk x 4).length+j∧zBw st chk L (zAW st chk L K) n=zB5 st (zAW st chk L K) j x (n+(tkTk x 4).length):=by
  intro hs ha;by_cases h4:levR x.f0<4
  ·rw[zDR h4] at hs⊢;exact⟨L,kD4,cp hs⟩
  ·rw[zDc kD4] at hs ha ⊢;exact h.l4 kD4 K n hn hs ha
 have pp:Sees st n (tkTk x 3)→NP (st (n+(tkTk x 3).length))→zCw st chk L (zAW st chk L K) n=.ok (x,n+(tkTk x 3).length):=by
  intro hs hp;by_cases h3:levR x.f0<3
  ·rw[zDR h3] at hs hp ⊢;exact up43 (cp hs) hp
  ·rw[zDc kD4] at hs hp ⊢;exact c3 kD4 K n hn hs hp
 have pd:Sees st n (tkTk x 2)→NP (st (n+(tkTk x 2).length))→∃j,N<n+(tkTk x 2).length+j∧zBf st chk L (zAW st chk L K) n=zAY st chk L (zAW st chk L K) j x (n+(tkTk x 2).length):=by
  intro hs hp;by_cases h2:levR x.f0<2
  ·rw[zDR h2] at hs hp ⊢;exact⟨L,kD4,up32 (up43 (cp hs) hp)⟩
  ·rw[zDc kD4] at hs hp ⊢;exact c2 kD4 K n hn hs hp
 refine⟨pe,pp,pd,fun hs hp=>?_⟩;by_cases h1:levR x.f0<1
 ·rw[zDR h1] at hs hp ⊢;exact⟨L,kD4,up21 (up32 (up43 (cp hs) hp.toNP)) hp (by rw[hs.1];exact .inr (.inr (.inl rfl)))⟩
 ·rw[zDc kD4] at hs hp ⊢;exact c1 kD4 K n hn hs hp
end
end
section
theorem ofR_reads:((List.range 100).all fun i=>match Lib.atoiAll (ofR (i:Int)).data.toList with | .ok v=>v==(i:Int) | _=>false)=true:=kD5
theorem ofR_atoi {v:Int} (h0:0≤v) (h1:v≤99):Lib.atoiAll (ofR v).data.toList=.ok v:=by
 have:=kBo.1 ofR_reads v.toNat (kBY.2 kD4);rw[kCw h0] at this;split at this
 ·rename_i u hu;rw[kAA] at this;rw[hu,this]
 ·cases this
theorem str_is {s t:ByteArray} (h:s.toList=t.data.toList):s=t:=by
 rw[kAV] at h;apply kBG;exact kBx.1 h
section
variable {st:Nat→Tk} {chk:S28→Int} {L N:Nat}
theorem zFT {v lo hi:Int} {n:Nat} (h:st n=(2,ofR v)) (h0:0≤v) (h1:v≤99) (hlo:lo≤v) (hhi:v≤hi):numI st lo hi n=.ok (v,n+1):=by
 unfold numI;rw[h];simp only[ofR_atoi h0 h1];rw[kAa ⟨trivial,hlo,hhi⟩]
theorem size_reads {v:Int} {n:Nat} (hlo:1≤v) (hhi:v≤99) (h:Sees st n (zBN v)):numI st 1 99 n=.ok (v,n+(zBN v).length):=by
 unfold zBN at h⊢;rw[kA9 kD4] at h⊢;exact zFT h.1 kD4 kD4 hlo hhi
theorem expo_reads {v:Int} {n:Nat} (x:S31) (hlo:-9≤v) (hhi:v≤9) (h:Sees st n (zBN v)):expoI st x n=.ok (⟨7,z28,⟨#[]⟩,v,[x]⟩,n+(zBN v).length):=by
 unfold zBN at h⊢;unfold expoI;by_cases h0:v<0
 ·rw[kAa h0] at h⊢;obtain⟨h1,h2,_⟩:=h;rw[kAa (by rw[zBa,h1];rfl),zFT h2 kD4 kD4 kD4 kD4];show Except.ok _=_;rw[show - -v=v by omega];rfl
 ·rw[kA9 h0] at h⊢;obtain⟨h1,_⟩:=h;rw[kA9 (by rw[zBa,h1,zFr _ kD6 kD6];decide),zFT h1 kD4 kD4 kD4 kD4];rfl
theorem lit_reads {num:S28} {name:ByteArray} {n:Nat} (hc:chk num=0) (h:Sees st n (litTk num name)) (ha:NA (st (n+(litTk num name).length))) :
  litI st chk num.f0 (n+1)=.ok (⟨0,num,name,0,[]⟩,n+(litTk num name).length):=by
 obtain⟨a,b⟩:=num;unfold litTk at h ha ⊢;simp only at h ha ⊢;obtain⟨h1,h2⟩:=h;have hu:∀(r:S28) (m:Nat),Sees st m (if name.toList == [] then [] else [(3,name)])→NA (st (m+(if name.toList == [] then ([]:List Tk) else [(3,name)]).length)) →
   unitI st r m=.ok (⟨0,r,name,0,[]⟩,m+(if name.toList == [] then ([]:List Tk) else [(3,name)]).length):=by
  intro r m hs hn;unfold unitI;by_cases hn0:(name.toList == [])=true
  ·rw[kAa hn0] at hs hn ⊢;have:name=⟨#[]⟩:=str_is (by simpa using hn0);rw[kA9 (by exact hn.unit),this];rfl
  ·rw[kA9 hn0] at hs hn ⊢;rw[kAa (by rw[hs.1]),hs.1];rfl
 unfold litI;by_cases hb:(b.toList == [49])=true
 ·rw[kAa hb] at h2 ha ⊢;simp only[List.nil_append] at h2 ha ⊢;have e:b=⟨#[49]⟩:=str_is (by simpa using hb);have hbar:skI st (n+1) ⟨#[124]⟩=false:=by
   rw[zBa];by_cases hn0:(name.toList == [])=true
   ·rw[kAa hn0] at ha;exact ha.bar
   ·rw[kA9 hn0] at h2;rw[h2.1];exact zFr _ kD6 kD6
  have el:n+((2,a) :: (if name.toList == [] then ([]:List Tk) else [(3,name)])).length=n+1+(if name.toList == [] then ([]:List Tk) else [(3,name)]).length:=by simp only[List.length_cons];omega
  rw[kA9 (by rw[hbar];decide),e,hu _ _ h2 (by rw[← el];exact ha),el]
 ·rw[kA9 hb] at h2 ha ⊢;obtain⟨h3,h4,h5⟩:=h2;rw[kAa (by rw[zBa,h3];rfl)];unfold denI;have el:n+((2,a) :: ([sgTk 124,(2,b)]++(if name.toList == [] then ([]:List Tk) else [(3,name)]))).length=n+1+1+1+(if name.toList == [] then ([]:List Tk) else [(3,name)]).length:=by simp only[List.length_cons,kAt,List.length_nil];omega
  rw[kAa (by rw[h4];exact⟨rfl,by simpa using hb,hc⟩),h4,hu _ _ h5 (by rw[← el];exact ha),el]
theorem list_reads {ex:Nat→RI S31} (cl:UInt8) (hcl:cl=41∨cl=93):∀(l:List S31) (k:Nat) (acc:List S31) (n:Nat),l≠[]→acc.length+l.length≤8→8≤k+acc.length →
  (∀a∈l,∀m,n≤m→Sees st m (tkTk a 0)→NS (st (m+(tkTk a 0).length))→ex m=.ok (a,m+(tkTk a 0).length))→Sees st n (zCd (l.map fun y=>tkTk y 0)++[sgTk cl]) →
  listI st ex ⟨#[cl]⟩ k acc n=.ok (acc++l,n+(zCd (l.map fun y=>tkTk y 0)).length+1):=by
 intro l
 induction l with
 | nil=>intro k acc n h;exact absurd rfl h
 | cons x l ih =>
  intro k acc n _ h8 hk hex hs;simp only[List.length_cons] at h8;obtain⟨k,rfl⟩:∃i,k=i+1:=⟨k-1,kD4⟩;have hcl44:(cl==44)=false:=by rcases hcl with rfl | rfl<;>rfl
  have hns:NS (sgTk cl):=by rcases hcl with rfl | rfl<;>exact ns_sg _ kD7
  unfold listI
  cases l with
  | nil =>
   simp only[kAh,kAr,zCd] at hs⊢;obtain⟨hs1,hs2,_⟩:=(zBH _ _ _).1 hs;rw[hex x (kAQ ..) n (kA2 _) hs1 (by rw[hs2];exact hns)];show (if _ then _ else _)=_;rw[kA9 (by rw[zBa,hs2,skT_sg,hcl44];simp)];unfold zDv;rw[kAa (by rw[zBa,hs2,skT_sg];simp)]
  | cons y r =>
   simp only[kAh,zCd,kBl,List.cons_append] at hs⊢;obtain⟨hs1,hs2,hs3⟩:=(zBH _ _ _).1 hs;rw[hex x (kAQ ..) n (kA2 _) hs1 (by rw[hs2];exact ns_sg 44 kD7)];show (if _ then _ else _)=_;simp only[List.length_cons] at h8;rw[kAa ⟨kD8,by rw[zBa,hs2];rfl⟩];have:=ih k (acc++[x]) (n+(tkTk x 0).length+1) kD6 kD8 kD8 (fun a ha m hm=>hex a (kAM _ ha) m kD4) hs3;rw[this];simp[kBR,Nat.add_comm,kCI]
theorem Own.of4 {x:S31} (h:levR x.f0=4) (k:∀K n,N<n+1+K→Sees st n (zAo x)→NA (st (n+(zAo x).length))→∃j,N<n+(zAo x).length+j∧zBw st chk L (zAW st chk L K) n=zB5 st (zAW st chk L K) j x (n+(zAo x).length)):Own st chk L N x :=
 ⟨fun _=>k,fun e=>by omega,fun e=>by omega,fun e=>by omega,fun e=>by omega⟩
theorem Own.of3 {x:S31} (h:levR x.f0=3) (k:∀K n,N<n+1+K→Sees st n (zAo x)→NP (st (n+(zAo x).length))→zCw st chk L (zAW st chk L K) n=.ok (x,n+(zAo x).length)):Own st chk L N x :=
 ⟨fun e=>by omega,fun _=>k,fun e=>by omega,fun e=>by omega,fun e=>by omega⟩
theorem Own.of2 {x:S31} (h:levR x.f0=2) (k:∀K n,N<n+1+K→Sees st n (zAo x)→NP (st (n+(zAo x).length))→∃j,N<n+(zAo x).length+j∧zBf st chk L (zAW st chk L K) n=zAY st chk L (zAW st chk L K) j x (n+(zAo x).length)):Own st chk L N x :=
 ⟨fun e=>by omega,fun e=>by omega,fun _=>k,fun e=>by omega,fun e=>by omega⟩
theorem Own.of1 {x:S31} (h:levR x.f0=1) (k:∀K n,N<n+1+K→Sees st n (zAo x)→ND (st (n+(zAo x).length))→∃j,N<n+(zAo x).length+j∧zDw st chk L (zAW st chk L K) n=zBk st chk L (zAW st chk L K) j x (n+(zAo x).length)):Own st chk L N x :=
 ⟨fun e=>by omega,fun e=>by omega,fun e=>by omega,fun _=>k,fun e=>by omega⟩
theorem Own.of0 {x:S31} (h:levR x.f0=0) (k:∀K n,N<n+1+K→Sees st n (zAo x)→NS (st (n+(zAo x).length))→zAW st chk L (K+1) n=.ok (x,n+(zAo x).length)):Own st chk L N x :=
 ⟨fun e=>by omega,fun e=>by omega,fun e=>by omega,fun e=>by omega,fun _=>k⟩
theorem zEP {ex:Nat→RI S31} {n m:Nat} {x:S31} (h:zFn st chk ex n=.ok (x,m)):zBw st chk L ex n=zB5 st ex L x m:=by
 unfold zBw;rw[h];rfl
end
end
theorem single8 (num:S28) (name:ByteArray) (size:Int) (l:List S31) (v:Value) (w:World) (hv:Vw w ⟨8,num,name,size,l⟩ v) (hl:l.length≤1000000) (hsz:(zAr ⟨8,num,name,size,l⟩).size≤1000000000) (hT:Tab w) (hr:∀y∈l,zD5 y) :
  Calls Tryz.prog 101 #[v] w fun e w'=>e=.returned (.string (zAr ⟨8,num,name,size,l⟩))∧Below w.heap.size w w':=by
 obtain⟨A,c,rfl,hc1,hc2⟩:=hv.out;unfold exV at hv⊢;simp only at hv hc2 ⊢;have e:zAr ⟨8,num,name,size,l⟩=⟨#[91]⟩++zAV (l.map fun y=>zA7 y 0)++⟨#[93]⟩:=by rw[← zBS];rfl
 have hcat:cat [⟨#[91]⟩,zAV (l.map fun y=>zA7 y 0),⟨#[93]⟩]=zAr ⟨8,num,name,size,l⟩:=by rw[e];simp only[zBL,zBK,← kAD]
 have hts:(zAV (l.map fun y=>zA7 y 0)).size≤1000000000:=by rw[e,kBm,kBm] at hsz;omega
 clear e;have BW:=(kA3 _ w).alloc (kA2 _) (.cells #[.int .i64 8,.string num.f0,.string num.f1,.string name,.int .i64 size,.slice A l.length c] 156);have HR:=kA1 (list139 l hl hts hr A c _ (Kd.C_below hc2 BW) (hT.below BW));have hj:=fun W:World=>zAQ W.heap.size [⟨#[91]⟩,zAV (l.map fun y=>zA7 y 0),⟨#[93]⟩] 9 _ (zA4 W _) kD6 kDl
 rw[hcat] at hj;simp only[List.length_cons,List.length_nil,kAv,Nat.reduceAdd,kAh,kAr] at hj;have HJ:=kA1 hj;clear hv hc2 hr hsz hcat hts hj;generalize zAr ⟨8,num,name,size,l⟩=r at *;generalize zAV (l.map fun y=>zA7 y 0)=t at *;go_enter Tryz.func101,Tryz.ntmps101;go_wp2_with fail;refine HR.out.mono ?_;rintro e w1 ⟨rfl,hb1⟩;have B1:=BW.trans (hb1.mono BW.size);go_wp2_with fail;refine (HJ.out _).mono ?_;rintro e w2 ⟨rfl,hb2⟩;go_wp2;go_ret;exact⟨rfl,(B1.alloc B1.size _).trans (hb2.mono (by simp;have:=B1.size;omega))⟩
theorem single14 (num:S28) (name:ByteArray) (size:Int) (l:List S31) (v:Value) (w:World) (hv:Vw w ⟨14,num,name,size,l⟩ v) (hl:l.length≤1000000) (hsz:(zAr ⟨14,num,name,size,l⟩).size≤1000000000) (hT:Tab w) (hr:∀y∈l,zD5 y) :
  Calls Tryz.prog 101 #[v] w fun e w'=>e=.returned (.string (zAr ⟨14,num,name,size,l⟩))∧Below w.heap.size w w':=by
 obtain⟨A,c,rfl,hc1,hc2⟩:=hv.out;unfold exV at hv⊢;simp only at hv hc2 ⊢;have e:zAr ⟨14,num,name,size,l⟩=name++⟨#[40]⟩++zAV (l.map fun y=>zA7 y 0)++⟨#[41]⟩:=by rw[← zBS];rfl
 have hcat:cat [name,⟨#[40]⟩,zAV (l.map fun y=>zA7 y 0),⟨#[41]⟩]=zAr ⟨14,num,name,size,l⟩:=by rw[e];simp only[zBL,zBK,← kAD]
 have hts:(zAV (l.map fun y=>zA7 y 0)).size≤1000000000:=by rw[e,kBm,kBm] at hsz;omega
 clear e;have BW:=(kA3 _ w).alloc (kA2 _) (.cells #[.int .i64 14,.string num.f0,.string num.f1,.string name,.int .i64 size,.slice A l.length c] 156);have hbl:=zA4 w (.cells #[.int .i64 14,.string num.f0,.string num.f1,.string name,.int .i64 size,.slice A l.length c] 156);obtain⟨⟨p0,p1,p2,p3,p4,p5⟩,_,xl⟩:=zA6 hbl;have HR:=kA1 (fun W (hc:k31.C W A l.length l) (hb:Below w.heap.size w W)=>list139 l hl hts hr A c W hc (hT.below hb));have hj:=fun W:World=>zAQ W.heap.size [name,⟨#[40]⟩,zAV (l.map fun y=>zA7 y 0),⟨#[41]⟩] 9 _ (zA4 W _) kD6 kDl
 rw[hcat] at hj;simp only[List.length_cons,List.length_nil,kAv,Nat.reduceAdd,kAh,kAr] at hj;have HJ:=kA1 hj;have HC:=kA1 hc2;clear hv hc2 hr hsz hcat hts hj hT;generalize zAr ⟨14,num,name,size,l⟩=r at *;generalize zAV (l.map fun y=>zA7 y 0)=t at *;go_enter Tryz.func101,Tryz.ntmps101;go_wp2_with fail;generalize hX:w.alloc (.cells #[.int .i64 14,.string num.f0,.string num.f1,.string name,.int .i64 size,.slice A l.length c] 156)=X at *;have BW:=BW.drew;have K:X.drew.cell? ⟨w.heap.size,3,none⟩=some (.string name)∧X.drew.cell? ⟨w.heap.size,5,none⟩=some (.slice A l.length c):=⟨p3,p5⟩;have C:=Kd.C_below HC.out BW;have HKL:=kA1 (fun (a b:World) (hb:Below a.heap.size a b) (h:a.cell? ⟨w.heap.size,3,none⟩=some (.string name)∧a.cell? ⟨w.heap.size,5,none⟩=some (.slice A l.length c))=>(⟨zA0 hb h.1,zA0 hb h.2⟩:b.cell? ⟨w.heap.size,3,none⟩=some (.string name)∧b.cell? ⟨w.heap.size,5,none⟩=some (.slice A l.length c)));clear hbl p0 p1 p2 p3 p4 p5 xl
 go_region_held3 (fun w':World=>w'.cell? ⟨w.heap.size,3,none⟩=some (.string name)∧w'.cell? ⟨w.heap.size,5,none⟩=some (.slice A l.length c)) (first | exact K | exact HKL.out _ _ ((kA3 _ _).alloc (kA2 _) _) K) (first
  | (go_at_call 139;refine (HR.out _ C BW).mono ?_;rintro e wq ⟨rfl,hq⟩;clear HR;have K:=HKL.out _ _ hq K;have BW:=BW.trans (hq.mono BW.size))
  | (go_at_call 98;refine (HJ.out _).mono ?_;rintro e wq ⟨rfl,hq⟩;have K:=HKL.out _ _ hq (HKL.out _ _ ((kA3 _ _).alloc (kA2 _) _) K);have BW:=(BW.alloc BW.size _).trans (hq.mono kDm)))
 all_goals
  go_wp2;go_ret;exact⟨rfl,BW⟩
theorem joined3 (a b c:ByteArray) (h:(a++b++c).size≤1000000000) (w:World) (bk:Nat) (hbk:bk=w.heap.size):Calls Tryz.prog 98 #[.slice (some ⟨bk,0,none⟩) 3 3] (w.alloc (.cells #[.string a,.string b,.string c] 9)) fun e w'=>e=.returned (.string (a++b++c))∧Below (w.alloc (.cells #[.string a,.string b,.string c] 9)).heap.size (w.alloc (.cells #[.string a,.string b,.string c] 9)) w':=by
 subst hbk;have hcat:cat [a,b,c]=a++b++c:=by simp only[zBL,zBK,← kAD]
 have hj:=zAQ w.heap.size [a,b,c] 9 _ (zA4 w _) kD6 kDl;rw[hcat] at hj;exact hj
theorem joined4 (a b c d:ByteArray) (h:(a++b++c++d).size≤1000000000) (w:World) (bk:Nat) (hbk:bk=w.heap.size):Calls Tryz.prog 98 #[.slice (some ⟨bk,0,none⟩) 4 4] (w.alloc (.cells #[.string a,.string b,.string c,.string d] 9)) fun e w'=>e=.returned (.string (a++b++c++d))∧Below (w.alloc (.cells #[.string a,.string b,.string c,.string d] 9)).heap.size (w.alloc (.cells #[.string a,.string b,.string c,.string d] 9)) w':=by
 subst hbk;have hcat:cat [a,b,c,d]=a++b++c++d:=by simp only[zBL,zBK,← kAD]
 have hj:=zAQ w.heap.size [a,b,c,d] 9 _ (zA4 w _) kD6 kDl;rw[hcat] at hj;exact hj
theorem single0 (num:S28) (name:ByteArray) (size:Int) (v:Value) (w:World) (hv:Vw w ⟨0,num,name,size,[]⟩ v) (h1:num.f0.size≤1000000) (h2:num.f1.size≤1000000) (h3:name.size≤1000000) :
  Calls Tryz.prog 101 #[v] w fun e w'=>e=.returned (.string (litR num name))∧Below w.heap.size w w':=by
 obtain⟨A,c,rfl,hc1,hc2⟩:=hv.out;unfold exV at hv⊢;simp only at hv⊢;clear hv hc2;have hL:∀a b,(num.f1.toList == [49])=a→(name.toList == [])=b→litR num name=(if b then (if a then num.f0 else num.f0++⟨#[124]⟩++num.f1) else (if a then num.f0 else num.f0++⟨#[124]⟩++num.f1)++⟨#[123]⟩++name++⟨#[125]⟩):=fun a b ha hb=>by unfold litR litN;rw[ha,hb]
 obtain⟨a,ha⟩:∃a,(num.f1.toList == [49])=a:=⟨_,rfl⟩;obtain⟨b,hb⟩:∃b,(name.toList == [])=b:=⟨_,rfl⟩;have hr:=hL a b ha hb;have hb2:name.toList.isEmpty=b:=by rw[← hb];cases name.toList<;>rfl
 have HJ1:=kA1 (fun W bk hbk=>joined3 num.f0 ⟨#[124]⟩ num.f1 kDc W bk hbk);have HJ2:=kA1 (fun W bk hbk o (h:o.size≤2000001)=>joined4 o ⟨#[123]⟩ name ⟨#[125]⟩ kDc W bk hbk);have HZ:=kA1 (show num.f0.size≤2000001∧(num.f0++⟨#[124]⟩++num.f1).size≤2000001 by simp only[kA6,ByteArray.size_mk',kAb,List.length_cons,List.length_nil];omega);have BW:=(kA3 _ w).alloc (kA2 _) (.cells #[.int .i64 0,.string num.f0,.string num.f1,.string name,.int .i64 size,.slice A 0 c] 156);have HBW:=kA1 BW;have hbl:=kA1 (zA4 w (.cells #[.int .i64 0,.string num.f0,.string num.f1,.string name,.int .i64 size,.slice A 0 c] 156));have HR:=kA1 hr;clear hL hr BW
 cases a<;>cases b
 case false.false =>
  go_enter Tryz.func101,Tryz.ntmps101;go_wp2_with fail;refine (HJ1.out (w.alloc _) _ kD6).mono ?_;rintro e w1 ⟨rfl,hb1⟩;have B1:=(HBW.out.alloc HBW.out.size _).trans (hb1.mono kDV);obtain⟨⟨p0,p1,p2,p3,p4,p5⟩,_,xl⟩:=zA6 (zAa hb1 ((kA4 _ _ _ (zA5 hbl.out)).trans hbl.out));clear hb1;go_wp2_with fail;refine (HJ2.out w1 _ rfl _ HZ.out.2).mono ?_;rintro e w2 ⟨rfl,hb2⟩;go_wp2;go_ret;have hr:=HR.out;simp only[kCO,kBu,kCL] at hr;exact⟨by rw[hr];rfl,(B1.alloc B1.size _).trans (hb2.mono (by simp;have:=B1.size;omega))⟩
 case false.true =>
  go_enter Tryz.func101,Tryz.ntmps101;go_wp2_with fail;refine (HJ1.out (w.alloc _) _ kD6).mono ?_;rintro e w1 ⟨rfl,hb1⟩;have B1:=(HBW.out.alloc HBW.out.size _).trans (hb1.mono kDV);obtain⟨⟨p0,p1,p2,p3,p4,p5⟩,_,xl⟩:=zA6 (zAa hb1 ((kA4 _ _ _ (zA5 hbl.out)).trans hbl.out));clear hb1;go_wp2;go_ret;have hr:=HR.out;simp only[kCO,kBu,kCL] at hr;exact⟨by rw[hr];rfl,B1⟩
 case true.false =>
  go_enter Tryz.func101,Tryz.ntmps101;go_wp2_with fail;refine (HJ2.out (w.alloc _) _ kD6 _ HZ.out.1).mono ?_;rintro e w2 ⟨rfl,hb2⟩;go_wp2;go_ret;have hr:=HR.out;simp only[kCO,kBu,kCL] at hr;exact⟨by rw[hr];rfl,(HBW.out.alloc HBW.out.size _).trans (hb2.mono kDV)⟩
 case true.true =>
  go_enter Tryz.func101,Tryz.ntmps101;go_wp2;go_ret;have hr:=HR.out;simp only[kCO,kBu,kCL] at hr;exact⟨by rw[hr];rfl,HBW.out⟩
end Go.Proofs.YtjaobihcdkjmbaaGreatDoor
end
section
namespace Go.Proofs.YtjaobihcdkjmbaaGreatDoor
open Go.RowKit Go.Proofs.YtjaobihcdkjmbaaGreatDoorW.PrintWords Go.Proofs.YtjaobihcdkjmbaaGreatDoorW.PrintLast Go.Proofs.YtjaobihcdkjmbaaGreatDoor.PReadTokens
theorem lit_badB (W0:World) (R B:Nat) (ts:List S47) (en now:Nat) (w:World) (E:Env W0 R B ts) (hS:Start W0) (h:St W0 R B ts en now w) (h2:(tokP ts en now).f0=2) (hbar:sk ts en (now+1) ⟨#[124]⟩=true)
  (hk:(tokP ts en (now+2)).f0≠2) :
  Calls Tryz.prog 278 #[.pointer (some ⟨R,0,none⟩)] w (zAk w R ts en now (.error (atP ts en (now+2)))):=by
 have hlt:=zBP h2 kD7;have hlt1:=zAv hbar;have few:=E.few;have hRw:=h.rdr.lt;have M0:=Mid.start h;have hkd:=zCC R ts now en 2 (w.alloc zO) M0.st.rdr hlt few kDA;have hsk:=kA1 (fun w' hr=>zAE R ts (now+1) en ⟨#[124]⟩ w' hr few hbar);have hpk:=fun w' (hr:Rdr w' R ts (now+2) en)=>zB7 R ts (now+2) en w' hr kD4
 have hmf:=fun w' (hr:Rdr w' R ts (now+2) en)=>zC4 R ts (now+2) en w' hr kD4
 have hrc:=fun (w':World) (hb:Below W0.heap.size W0 w')=>zBl (tokP ts en now).f1 (tokP ts en (now+2)).f1 (kAB (zBx (en:=en) (now:=now) E.small) kD4) (kAB (zBx (en:=en) (now:=now+2) E.small) kD4) w' (hS.below hb)
 unfold tokV at hpk;unfold zAm at hmf;have hk':((tokP ts en (now+2)).f0==2)=false:=kAd.2 hk;generalize hat:atP ts en (now+2)=at_;unfold atP at hat;generalize (tokP ts en now).f1=num at *;generalize tokP ts en (now+2)=t at *;have Hpk:=kA1 hpk;have Hrc:=kA1 hrc;rw[hat] at hmf;have Hmf:=kA1 hmf;clear h2 hbar h hpk hrc hmf hat hk;go_enter Tryz.func278,Tryz.ntmps278;go_wp2_with fail;refine hkd.mono ?_;rintro e w1 ⟨rfl,hk1⟩;have M1:=M0.go E hRw hk1 hlt;have M1x:=M1.alloc (.cells #[.int .i64 0,.string num,.string ⟨#[49]⟩,.string ⟨#[]⟩,.int .i64 0,.slice none 0 0] 31);have xb:=zA4 w1 (.cells #[.int .i64 0,.string num,.string ⟨#[49]⟩,.string ⟨#[]⟩,.int .i64 0,.slice none 0 0] 31);have hXR:w1.heap.size≠R:=kAs hk1.rdr.lt;have hXw:w.heap.size<w1.heap.size:=M1.lt;have hs:=hsk.out _ M1x.st.rdr;clear hkd hk1 M0 M1;go_wp2_with fail;refine hs.mono ?_;rintro e w2 ⟨rfl,hk2⟩;have M2:=M1x.go E hRw hk2 hlt1;have x2:=hk2.blk xb hXR;generalize w1.heap.size=X at *;have hp:=Hpk.out w2 M2.st.rdr;clear hs hk2 M1x xb hsk;go_wp2_with fail;refine hp.mono ?_;rintro e w3 ⟨rfl,hb3⟩;have M3:=M2.below hb3;have x3:=zAa hb3 x2;have hXl:=zA5 x3;clear hp hb3 M2 x2;have M4:=(M3.setX E hRw hXR hXw x3 2 (.string t.f1)).alloc (.cells #[.int .i64 t.f0,.string t.f1,.int .i64 t.f2] 47);have x4:((w3.setCell ⟨X,2,none⟩ (.string t.f1)).alloc (.cells #[.int .i64 t.f0,.string t.f1,.int .i64 t.f2] 47)).heap[X]?=some (.cells #[.int .i64 0,.string num,.string t.f1,.string ⟨#[]⟩,.int .i64 0,.slice none 0 0] 31 (0,0)):=(kA4 _ _ _ kDN).trans (zA8 x3 2 (.string t.f1));have t4:((w3.setCell ⟨X,2,none⟩ (.string t.f1)).alloc (.cells #[.int .i64 t.f0,.string t.f1,.int .i64 t.f2] 47)).heap[w3.heap.size]?=some (.cells #[.int .i64 t.f0,.string t.f1,.int .i64 t.f2] 47 (0,0)):=by
  have:=zA4 (w3.setCell ⟨X,2,none⟩ (.string t.f1)) (.cells #[.int .i64 t.f0,.string t.f1,.int .i64 t.f2] 47);rw[kAN] at this;exact this
 obtain⟨⟨c0,c1,c2,c3,c4,c5⟩,⟨y0,y1,y2,y3,y4,y5⟩,-⟩:=zA6 x3;go_wp2_with fail;have hTl:=zA5 t4;generalize w3.heap.size=T at *;generalize (w3.setCell ⟨X,2,none⟩ (.string t.f1)).alloc (.cells #[.int .i64 t.f0,.string t.f1,.int .i64 t.f2] 47)=w4 at *;clear c0 c1 c2 c3 c4 c5 y0 y1 y2 y3 y4 y5 x3 M3;have M4d:=M4.below ((kA3 _ w4).drew);have x4d:w4.drew.heap[X]?=_:=x4;have t4d:w4.drew.heap[T]?=_:=t4;have k0:=zA1 t4d 0;have k1:=zA1 t4d 1;have z1:=zA1 x4d 1;have z2:=zA1 x4d 2;simp at k0 k1 z1 z2;refine zDE (n:=18) (S:=fun w'=>w'.cell? ⟨T,0,none⟩=some (.int .i64 t.f0)) (ds:=[]) #[false,false,false,false,false,false,false,false,false,false,false,false,false,false,false,false,false,false] kD5 rfl rfl (k0) (fun hHeld=>?_);refine zAq (i:=0) (N:=some 23) (v:=?_) (a':=?_) #[true,false,false,false,false,false,false,false,false,false,false,false,false,false,false,false,false,false] rfl rfl kD5 (fun _ _ _ h=>h) (Or.inl ⟨kD9,?_⟩) ?_ ?_;rotate_left
 ·intro w';go_simp
  with_reducible rfl
 rotate_left
 ·simp only[Act.put,kA0,List.set_cons_zero,List.set_cons_succ,zAd,zAe];rfl
 refine zAq (i:=1) (N:=some 24) (v:=?_) (a':=?_) #[true,true,false,false,false,false,false,false,false,false,false,false,false,false,false,false,false,false] rfl rfl kD5 (fun _ _ _ h=>h) (Or.inl ⟨kD9,?_⟩) ?_ ?_;rotate_left
 ·intro w';go_simp
  with_reducible rfl
 rotate_left
 ·simp only[Act.put,kA0,List.set_cons_zero,List.set_cons_succ,zAd,zAe];rfl
 refine zAq (i:=2) (N:=some 25) (v:=?_) (a':=?_) #[true,true,true,false,false,false,false,false,false,false,false,false,false,false,false,false,false,false] rfl rfl kD5 (fun _ _ _ h=>h) (Or.inl ⟨kD9,?_⟩) ?_ ?_;rotate_left
 ·intro w';go_simp
  with_reducible rfl
 rotate_left
 ·simp only[Act.put,kA0,List.set_cons_zero,List.set_cons_succ,zAd,zAe];rfl
 refine zAq (i:=3) (N:=some 26) (v:=?_) (a':=?_) #[true,true,true,true,false,false,false,false,false,false,false,false,false,false,false,false,false,false] rfl rfl kD5 (fun _ _ _ h=>h) (Or.inl ⟨kD9,?_⟩) ?_ ?_;rotate_left
 ·intro w';go_simp
  with_reducible rfl
 rotate_left
 ·simp only[Act.put,kA0,List.set_cons_zero,List.set_cons_succ,zAd,zAe];rfl
 refine zDd (i:=4) (N:=some 27) (v:=?_) (a':=?_) #[true,true,true,true,true,false,false,false,false,false,false,false,false,false,false,false,false,false] rfl rfl kD5 (fun _ _ _ h=>h) (Or.inl ⟨kD9,?_⟩) hHeld ?_ ?_;rotate_left
 ·intro w' s0;go_simp
  with_reducible rfl
 rotate_left
 ·simp only[Act.put,kA0,List.set_cons_zero,List.set_cons_succ,zAd,zAe];rfl
 refine zAq (i:=5) (N:=some 28) (v:=?_) (a':=?_) #[true,true,true,true,true,true,false,false,false,false,false,false,false,false,false,false,false,false] rfl rfl kD5 (fun _ _ _ h=>h) (Or.inl ⟨kD9,?_⟩) ?_ ?_;rotate_left
 ·intro w';go_simp
  with_reducible rfl
 rotate_left
 ·simp only[Act.put,kA0,List.set_cons_zero,List.set_cons_succ,zAd,zAe];rfl
 refine zAq (i:=6) (N:=some 29) (v:=?_) (a':=?_) #[true,true,true,true,true,true,true,false,false,false,false,false,false,false,false,false,false,false] rfl rfl kD5 (fun _ _ _ h=>h) (Or.inl ⟨kD9,?_⟩) ?_ ?_;rotate_left
 ·intro w';go_simp
  with_reducible rfl
 rotate_left
 ·simp only[Act.put,kA0,List.set_cons_zero,List.set_cons_succ,zAd,zAe];rfl
 refine zAq (i:=7) (N:=some 30) (v:=undef) (a':=?_) #[true,true,true,true,true,true,true,true,false,false,false,false,false,false,false,false,false,false] rfl rfl kD5 (fun _ _ _ h=>h) (Or.inr ⟨kD9,rfl⟩) ?_ ?_;rotate_left
 ·simp only[Act.put,kA0,List.set_cons_zero,List.set_cons_succ,zAd,zAe];rfl
 refine zAq (i:=8) (N:=some 31) (v:=undef) (a':=?_) #[true,true,true,true,true,true,true,true,true,false,false,false,false,false,false,false,false,false] rfl rfl kD5 (fun _ _ _ h=>h) (Or.inr ⟨kD9,rfl⟩) ?_ ?_;rotate_left
 ·simp only[Act.put,kA0,List.set_cons_zero,List.set_cons_succ,zAd,zAe];rfl
 refine zAq (i:=9) (N:=some 32) (v:=undef) (a':=?_) #[true,true,true,true,true,true,true,true,true,true,false,false,false,false,false,false,false,false] rfl rfl kD5 (fun _ _ _ h=>h) (Or.inr ⟨kD9,rfl⟩) ?_ ?_;rotate_left
 ·simp only[Act.put,kA0,List.set_cons_zero,List.set_cons_succ,zAd,zAe];rfl
 refine zAq (i:=10) (N:=some 33) (v:=?_) (a':=?_) #[true,true,true,true,true,true,true,true,true,true,true,false,false,false,false,false,false,false] rfl rfl kD5 (fun _ _ _ h=>h) (Or.inl ⟨kD9,?_⟩) ?_ ?_;rotate_left
 ·intro w';go_simp
  with_reducible rfl
 rotate_left
 ·simp only[Act.put,kA0,List.set_cons_zero,List.set_cons_succ,zAd,zAe];rfl
 refine zAq (i:=11) (N:=some 34) (v:=?_) (a':=?_) #[true,true,true,true,true,true,true,true,true,true,true,true,false,false,false,false,false,false] rfl rfl kD5 (fun _ _ _ h=>h) (Or.inl ⟨kD9,?_⟩) ?_ ?_;rotate_left
 ·intro w';go_simp
  with_reducible rfl
 rotate_left
 ·simp only[Act.put,kA0,List.set_cons_zero,List.set_cons_succ,zAd,zAe];rfl
 refine zAq (i:=12) (N:=some 35) (v:=undef) (a':=?_) #[true,true,true,true,true,true,true,true,true,true,true,true,true,false,false,false,false,false] rfl rfl kD5 (fun _ _ _ h=>h) (Or.inr ⟨kD9,rfl⟩) ?_ ?_;rotate_left
 ·simp only[Act.put,kA0,List.set_cons_zero,List.set_cons_succ,zAd,zAe];rfl
 refine zAq (i:=13) (N:=some 36) (v:=undef) (a':=?_) #[true,true,true,true,true,true,true,true,true,true,true,true,true,true,false,false,false,false] rfl rfl kD5 (fun _ _ _ h=>h) (Or.inr ⟨kD9,rfl⟩) ?_ ?_;rotate_left
 ·simp only[Act.put,kA0,List.set_cons_zero,List.set_cons_succ,zAd,zAe];rfl
 refine zAq (i:=14) (N:=some 37) (v:=undef) (a':=?_) #[true,true,true,true,true,true,true,true,true,true,true,true,true,true,true,false,false,false] rfl rfl kD5 (fun _ _ _ h=>h) (Or.inr ⟨kD9,rfl⟩) ?_ ?_;rotate_left
 ·simp only[Act.put,kA0,List.set_cons_zero,List.set_cons_succ,zAd,zAe];rfl
 refine zAq (i:=15) (N:=some 38) (v:=undef) (a':=?_) #[true,true,true,true,true,true,true,true,true,true,true,true,true,true,true,true,false,false] rfl rfl kD5 (fun _ _ _ h=>h) (Or.inr ⟨kD9,rfl⟩) ?_ ?_;rotate_left
 ·simp only[Act.put,kA0,List.set_cons_zero,List.set_cons_succ,zAd,zAe];rfl
 refine zAq (i:=16) (N:=some 39) (v:=?_) (a':=?_) #[true,true,true,true,true,true,true,true,true,true,true,true,true,true,true,true,true,false] rfl rfl kD5 (fun _ _ _ h=>h) (Or.inl ⟨kD9,?_⟩) ?_ ?_;rotate_left
 ·intro w';go_simp
  with_reducible rfl
 rotate_left
 ·simp only[Act.put,kA0,List.set_cons_zero,List.set_cons_succ,zAd,zAe];rfl
 refine one_ (i:=17) (N:=some 40) #[true,true,true,true,true,true,true,true,true,true,true,true,true,true,true,true,true,true] rfl rfl kD5 kD7 (fun K hK=>?_);have hm:=Hmf.out _ M4d.st.rdr;refine panics_ Tryz.func93 kD5 rfl #[.pointer (some ⟨R,0,none⟩),.bool false] kD9 rfl kDo ?_
 with_reducible refine hm.mono ?_
 rintro e w6⟨rfl,hb6⟩;exact⟨_,rfl,rfl,rfl,kAk M4d.took.grown hb6⟩
theorem lit_badC (W0:World) (R B:Nat) (ts:List S47) (en now:Nat) (w:World) (E:Env W0 R B ts) (hS:Start W0) (h:St W0 R B ts en now w) (h2:(tokP ts en now).f0=2) (hbar:sk ts en (now+1) ⟨#[124]⟩=true)
  (hk:(tokP ts en (now+2)).f0=2) (hne:(tokP ts en (now+2)).f1.toList=[49]) :
  Calls Tryz.prog 278 #[.pointer (some ⟨R,0,none⟩)] w (zAk w R ts en now (.error (atP ts en (now+2)))):=by
 have hlt:=zBP h2 kD7;have hlt1:=zAv hbar;have few:=E.few;have hRw:=h.rdr.lt;have M0:=Mid.start h;have hkd:=zCC R ts now en 2 (w.alloc zO) M0.st.rdr hlt few kDA;have hsk:=kA1 (fun w' hr=>zAE R ts (now+1) en ⟨#[124]⟩ w' hr few hbar);have hpk:=fun w' (hr:Rdr w' R ts (now+2) en)=>zB7 R ts (now+2) en w' hr kD4
 have hmf:=fun w' (hr:Rdr w' R ts (now+2) en)=>zC4 R ts (now+2) en w' hr kD4
 have hrc:=fun (w':World) (hb:Below W0.heap.size W0 w')=>zBl (tokP ts en now).f1 (tokP ts en (now+2)).f1 (kAB (zBx (en:=en) (now:=now) E.small) kD4) (kAB (zBx (en:=en) (now:=now+2) E.small) kD4) w' (hS.below hb)
 unfold tokV at hpk;unfold zAm at hmf;have hk':((tokP ts en (now+2)).f0==2)=true:=by rw[kAA];exact hk
 have hne':((tokP ts en (now+2)).f1.toList == [49])=true:=by rw[hne];rfl
 generalize hat:atP ts en (now+2)=at_;unfold atP at hat;generalize (tokP ts en now).f1=num at *;generalize tokP ts en (now+2)=t at *;have Hpk:=kA1 hpk;have Hrc:=kA1 hrc;rw[hat] at hmf;have Hmf:=kA1 hmf;clear h2 hbar h hpk hrc hmf hat hk hne;go_enter Tryz.func278,Tryz.ntmps278;go_wp2_with fail;refine hkd.mono ?_;rintro e w1 ⟨rfl,hk1⟩;have M1:=M0.go E hRw hk1 hlt;have M1x:=M1.alloc (.cells #[.int .i64 0,.string num,.string ⟨#[49]⟩,.string ⟨#[]⟩,.int .i64 0,.slice none 0 0] 31);have xb:=zA4 w1 (.cells #[.int .i64 0,.string num,.string ⟨#[49]⟩,.string ⟨#[]⟩,.int .i64 0,.slice none 0 0] 31);have hXR:w1.heap.size≠R:=kAs hk1.rdr.lt;have hXw:w.heap.size<w1.heap.size:=M1.lt;have hs:=hsk.out _ M1x.st.rdr;clear hkd hk1 M0 M1;go_wp2_with fail;refine hs.mono ?_;rintro e w2 ⟨rfl,hk2⟩;have M2:=M1x.go E hRw hk2 hlt1;have x2:=hk2.blk xb hXR;generalize w1.heap.size=X at *;have hp:=Hpk.out w2 M2.st.rdr;clear hs hk2 M1x xb hsk;go_wp2_with fail;refine hp.mono ?_;rintro e w3 ⟨rfl,hb3⟩;have M3:=M2.below hb3;have x3:=zAa hb3 x2;have hXl:=zA5 x3;clear hp hb3 M2 x2;have M4:=(M3.setX E hRw hXR hXw x3 2 (.string t.f1)).alloc (.cells #[.int .i64 t.f0,.string t.f1,.int .i64 t.f2] 47);have x4:((w3.setCell ⟨X,2,none⟩ (.string t.f1)).alloc (.cells #[.int .i64 t.f0,.string t.f1,.int .i64 t.f2] 47)).heap[X]?=some (.cells #[.int .i64 0,.string num,.string t.f1,.string ⟨#[]⟩,.int .i64 0,.slice none 0 0] 31 (0,0)):=(kA4 _ _ _ kDN).trans (zA8 x3 2 (.string t.f1));have t4:((w3.setCell ⟨X,2,none⟩ (.string t.f1)).alloc (.cells #[.int .i64 t.f0,.string t.f1,.int .i64 t.f2] 47)).heap[w3.heap.size]?=some (.cells #[.int .i64 t.f0,.string t.f1,.int .i64 t.f2] 47 (0,0)):=by
  have:=zA4 (w3.setCell ⟨X,2,none⟩ (.string t.f1)) (.cells #[.int .i64 t.f0,.string t.f1,.int .i64 t.f2] 47);rw[kAN] at this;exact this
 obtain⟨⟨c0,c1,c2,c3,c4,c5⟩,⟨y0,y1,y2,y3,y4,y5⟩,-⟩:=zA6 x3;go_wp2_with fail;have hTl:=zA5 t4;generalize w3.heap.size=T at *;generalize (w3.setCell ⟨X,2,none⟩ (.string t.f1)).alloc (.cells #[.int .i64 t.f0,.string t.f1,.int .i64 t.f2] 47)=w4 at *;clear c0 c1 c2 c3 c4 c5 y0 y1 y2 y3 y4 y5 x3 M3;have M4d:=M4.below ((kA3 _ w4).drew);have x4d:w4.drew.heap[X]?=_:=x4;have t4d:w4.drew.heap[T]?=_:=t4;have k0:=zA1 t4d 0;have k1:=zA1 t4d 1;have z1:=zA1 x4d 1;have z2:=zA1 x4d 2;simp at k0 k1 z1 z2;refine zDE (n:=18) (S:=fun w'=>w'.cell? ⟨T,0,none⟩=some (.int .i64 t.f0)∧w'.cell? ⟨T,1,none⟩=some (.string t.f1)) (ds:=[]) #[false,false,false,false,false,false,false,false,false,false,false,false,false,false,false,false,false,false] kD5 rfl rfl ⟨k0,k1⟩ (fun hHeld=>?_);refine zAq (i:=0) (N:=some 23) (v:=?_) (a':=?_) #[true,false,false,false,false,false,false,false,false,false,false,false,false,false,false,false,false,false] rfl rfl kD5 (fun _ _ _ h=>h) (Or.inl ⟨kD9,?_⟩) ?_ ?_;rotate_left
 ·intro w';go_simp
  with_reducible rfl
 rotate_left
 ·simp only[Act.put,kA0,List.set_cons_zero,List.set_cons_succ,zAd,zAe];rfl
 refine zAq (i:=1) (N:=some 24) (v:=?_) (a':=?_) #[true,true,false,false,false,false,false,false,false,false,false,false,false,false,false,false,false,false] rfl rfl kD5 (fun _ _ _ h=>h) (Or.inl ⟨kD9,?_⟩) ?_ ?_;rotate_left
 ·intro w';go_simp
  with_reducible rfl
 rotate_left
 ·simp only[Act.put,kA0,List.set_cons_zero,List.set_cons_succ,zAd,zAe];rfl
 refine zAq (i:=2) (N:=some 25) (v:=?_) (a':=?_) #[true,true,true,false,false,false,false,false,false,false,false,false,false,false,false,false,false,false] rfl rfl kD5 (fun _ _ _ h=>h) (Or.inl ⟨kD9,?_⟩) ?_ ?_;rotate_left
 ·intro w';go_simp
  with_reducible rfl
 rotate_left
 ·simp only[Act.put,kA0,List.set_cons_zero,List.set_cons_succ,zAd,zAe];rfl
 refine zAq (i:=3) (N:=some 26) (v:=?_) (a':=?_) #[true,true,true,true,false,false,false,false,false,false,false,false,false,false,false,false,false,false] rfl rfl kD5 (fun _ _ _ h=>h) (Or.inl ⟨kD9,?_⟩) ?_ ?_;rotate_left
 ·intro w';go_simp
  with_reducible rfl
 rotate_left
 ·simp only[Act.put,kA0,List.set_cons_zero,List.set_cons_succ,zAd,zAe];rfl
 refine zDd (i:=4) (N:=some 27) (v:=?_) (a':=?_) #[true,true,true,true,true,false,false,false,false,false,false,false,false,false,false,false,false,false] rfl rfl kD5 (fun _ _ _ h=>h) (Or.inl ⟨kD9,?_⟩) hHeld ?_ ?_;rotate_left
 ·rintro w'⟨s0,s1⟩;go_simp
  with_reducible rfl
 rotate_left
 ·simp only[Act.put,kA0,List.set_cons_zero,List.set_cons_succ,zAd,zAe];rfl
 refine zAq (i:=5) (N:=some 28) (v:=?_) (a':=?_) #[true,true,true,true,true,true,false,false,false,false,false,false,false,false,false,false,false,false] rfl rfl kD5 (fun _ _ _ h=>h) (Or.inl ⟨kD9,?_⟩) ?_ ?_;rotate_left
 ·intro w';go_simp
  with_reducible rfl
 rotate_left
 ·simp only[Act.put,kA0,List.set_cons_zero,List.set_cons_succ,zAd,zAe];rfl
 refine zAq (i:=6) (N:=some 29) (v:=?_) (a':=?_) #[true,true,true,true,true,true,true,false,false,false,false,false,false,false,false,false,false,false] rfl rfl kD5 (fun _ _ _ h=>h) (Or.inl ⟨kD9,?_⟩) ?_ ?_;rotate_left
 ·intro w';go_simp
  with_reducible rfl
 rotate_left
 ·simp only[Act.put,kA0,List.set_cons_zero,List.set_cons_succ,zAd,zAe];rfl
 refine zAq (i:=7) (N:=some 30) (v:=?_) (a':=?_) #[true,true,true,true,true,true,true,true,false,false,false,false,false,false,false,false,false,false] rfl rfl kD5 (fun _ _ _ h=>h) (Or.inl ⟨kD9,?_⟩) ?_ ?_;rotate_left
 ·intro w';go_simp
  with_reducible rfl
 rotate_left
 ·simp only[Act.put,kA0,List.set_cons_zero,List.set_cons_succ,zAd,zAe];rfl
 refine zDd (i:=8) (N:=some 31) (v:=?_) (a':=?_) #[true,true,true,true,true,true,true,true,true,false,false,false,false,false,false,false,false,false] rfl rfl kD5 (fun _ _ _ h=>h) (Or.inl ⟨kD9,?_⟩) hHeld ?_ ?_;rotate_left
 ·rintro w'⟨s0,s1⟩;go_simp
  with_reducible rfl
 rotate_left
 ·simp only[Act.put,kA0,List.set_cons_zero,List.set_cons_succ,zAd,zAe];rfl
 refine zAq (i:=9) (N:=some 32) (v:=?_) (a':=?_) #[true,true,true,true,true,true,true,true,true,true,false,false,false,false,false,false,false,false] rfl rfl kD5 (fun _ _ _ h=>h) (Or.inl ⟨kD9,?_⟩) ?_ ?_;rotate_left
 ·intro w';go_simp
  with_reducible rfl
 rotate_left
 ·simp only[Act.put,kA0,List.set_cons_zero,List.set_cons_succ,zAd,zAe];rfl
 refine zAq (i:=10) (N:=some 33) (v:=?_) (a':=?_) #[true,true,true,true,true,true,true,true,true,true,true,false,false,false,false,false,false,false] rfl rfl kD5 (fun _ _ _ h=>h) (Or.inl ⟨kD9,?_⟩) ?_ ?_;rotate_left
 ·intro w';go_simp
  with_reducible rfl
 rotate_left
 ·simp only[Act.put,kA0,List.set_cons_zero,List.set_cons_succ,zAd,zAe];rfl
 refine zAq (i:=11) (N:=some 34) (v:=?_) (a':=?_) #[true,true,true,true,true,true,true,true,true,true,true,true,false,false,false,false,false,false] rfl rfl kD5 (fun _ _ _ h=>h) (Or.inl ⟨kD9,?_⟩) ?_ ?_;rotate_left
 ·intro w';go_simp
  with_reducible rfl
 rotate_left
 ·simp only[Act.put,kA0,List.set_cons_zero,List.set_cons_succ,zAd,zAe];rfl
 refine zAq (i:=12) (N:=some 35) (v:=undef) (a':=?_) #[true,true,true,true,true,true,true,true,true,true,true,true,true,false,false,false,false,false] rfl rfl kD5 (fun _ _ _ h=>h) (Or.inr ⟨kD9,rfl⟩) ?_ ?_;rotate_left
 ·simp only[Act.put,kA0,List.set_cons_zero,List.set_cons_succ,zAd,zAe];rfl
 refine zAq (i:=13) (N:=some 36) (v:=undef) (a':=?_) #[true,true,true,true,true,true,true,true,true,true,true,true,true,true,false,false,false,false] rfl rfl kD5 (fun _ _ _ h=>h) (Or.inr ⟨kD9,rfl⟩) ?_ ?_;rotate_left
 ·simp only[Act.put,kA0,List.set_cons_zero,List.set_cons_succ,zAd,zAe];rfl
 refine zAq (i:=14) (N:=some 37) (v:=undef) (a':=?_) #[true,true,true,true,true,true,true,true,true,true,true,true,true,true,true,false,false,false] rfl rfl kD5 (fun _ _ _ h=>h) (Or.inr ⟨kD9,rfl⟩) ?_ ?_;rotate_left
 ·simp only[Act.put,kA0,List.set_cons_zero,List.set_cons_succ,zAd,zAe];rfl
 refine zAq (i:=15) (N:=some 38) (v:=undef) (a':=?_) #[true,true,true,true,true,true,true,true,true,true,true,true,true,true,true,true,false,false] rfl rfl kD5 (fun _ _ _ h=>h) (Or.inr ⟨kD9,rfl⟩) ?_ ?_;rotate_left
 ·simp only[Act.put,kA0,List.set_cons_zero,List.set_cons_succ,zAd,zAe];rfl
 refine zAq (i:=16) (N:=some 39) (v:=?_) (a':=?_) #[true,true,true,true,true,true,true,true,true,true,true,true,true,true,true,true,true,false] rfl rfl kD5 (fun _ _ _ h=>h) (Or.inl ⟨kD9,?_⟩) ?_ ?_;rotate_left
 ·intro w';go_simp
  with_reducible rfl
 rotate_left
 ·simp only[Act.put,kA0,List.set_cons_zero,List.set_cons_succ,zAd,zAe];rfl
 refine one_ (i:=17) (N:=some 40) #[true,true,true,true,true,true,true,true,true,true,true,true,true,true,true,true,true,true] rfl rfl kD5 kD7 (fun K hK=>?_);have hm:=Hmf.out _ M4d.st.rdr;refine panics_ Tryz.func93 kD5 rfl #[.pointer (some ⟨R,0,none⟩),.bool false] kD9 rfl kDo ?_
 with_reducible refine hm.mono ?_
 rintro e w6⟨rfl,hb6⟩;exact⟨_,rfl,rfl,rfl,kAk M4d.took.grown hb6⟩
theorem lit_badD (W0:World) (R B:Nat) (ts:List S47) (en now:Nat) (w:World) (E:Env W0 R B ts) (hS:Start W0) (h:St W0 R B ts en now w) (h2:(tokP ts en now).f0=2) (hbar:sk ts en (now+1) ⟨#[124]⟩=true)
  (hk:(tokP ts en (now+2)).f0=2) (hne:(tokP ts en (now+2)).f1.toList≠[49]) (hc:chkR ⟨(tokP ts en now).f1,(tokP ts en (now+2)).f1⟩≠0) :
  Calls Tryz.prog 278 #[.pointer (some ⟨R,0,none⟩)] w (zAk w R ts en now (.error (atP ts en (now+2)))):=by
 have hlt:=zBP h2 kD7;have hlt1:=zAv hbar;have few:=E.few;have hRw:=h.rdr.lt;have M0:=Mid.start h;have hkd:=zCC R ts now en 2 (w.alloc zO) M0.st.rdr hlt few kDA;have hsk:=kA1 (fun w' hr=>zAE R ts (now+1) en ⟨#[124]⟩ w' hr few hbar);have hpk:=fun w' (hr:Rdr w' R ts (now+2) en)=>zB7 R ts (now+2) en w' hr kD4
 have hmf:=fun w' (hr:Rdr w' R ts (now+2) en)=>zC4 R ts (now+2) en w' hr kD4
 have hrc:=fun (w':World) (hb:Below W0.heap.size W0 w')=>zBl (tokP ts en now).f1 (tokP ts en (now+2)).f1 (kAB (zBx (en:=en) (now:=now) E.small) kD4) (kAB (zBx (en:=en) (now:=now+2) E.small) kD4) w' (hS.below hb)
 unfold tokV at hpk;unfold zAm at hmf;have hk':((tokP ts en (now+2)).f0==2)=true:=by rw[kAA];exact hk
 have hne':((tokP ts en (now+2)).f1.toList == [49])=false:=kAd.2 hne;have hc':(chkR ⟨(tokP ts en now).f1,(tokP ts en (now+2)).f1⟩==0)=false:=kAd.2 hc;generalize chkR ⟨(tokP ts en now).f1,(tokP ts en (now+2)).f1⟩=cr at *;generalize hat:atP ts en (now+2)=at_;unfold atP at hat;generalize (tokP ts en now).f1=num at *;generalize tokP ts en (now+2)=t at *;have Hpk:=kA1 hpk;have Hrc:=kA1 hrc;rw[hat] at hmf;have Hmf:=kA1 hmf;clear h2 hbar h hpk hrc hmf hat hk hne hc;go_enter Tryz.func278,Tryz.ntmps278;go_wp2_with fail;refine hkd.mono ?_;rintro e w1 ⟨rfl,hk1⟩;have M1:=M0.go E hRw hk1 hlt;have M1x:=M1.alloc (.cells #[.int .i64 0,.string num,.string ⟨#[49]⟩,.string ⟨#[]⟩,.int .i64 0,.slice none 0 0] 31);have xb:=zA4 w1 (.cells #[.int .i64 0,.string num,.string ⟨#[49]⟩,.string ⟨#[]⟩,.int .i64 0,.slice none 0 0] 31);have hXR:w1.heap.size≠R:=kAs hk1.rdr.lt;have hXw:w.heap.size<w1.heap.size:=M1.lt;have hs:=hsk.out _ M1x.st.rdr;clear hkd hk1 M0 M1;go_wp2_with fail;refine hs.mono ?_;rintro e w2 ⟨rfl,hk2⟩;have M2:=M1x.go E hRw hk2 hlt1;have x2:=hk2.blk xb hXR;generalize w1.heap.size=X at *;have hp:=Hpk.out w2 M2.st.rdr;clear hs hk2 M1x xb hsk;go_wp2_with fail;refine hp.mono ?_;rintro e w3 ⟨rfl,hb3⟩;have M3:=M2.below hb3;have x3:=zAa hb3 x2;have hXl:=zA5 x3;clear hp hb3 M2 x2;have M4:=(M3.setX E hRw hXR hXw x3 2 (.string t.f1)).alloc (.cells #[.int .i64 t.f0,.string t.f1,.int .i64 t.f2] 47);have x4:((w3.setCell ⟨X,2,none⟩ (.string t.f1)).alloc (.cells #[.int .i64 t.f0,.string t.f1,.int .i64 t.f2] 47)).heap[X]?=some (.cells #[.int .i64 0,.string num,.string t.f1,.string ⟨#[]⟩,.int .i64 0,.slice none 0 0] 31 (0,0)):=(kA4 _ _ _ kDN).trans (zA8 x3 2 (.string t.f1));have t4:((w3.setCell ⟨X,2,none⟩ (.string t.f1)).alloc (.cells #[.int .i64 t.f0,.string t.f1,.int .i64 t.f2] 47)).heap[w3.heap.size]?=some (.cells #[.int .i64 t.f0,.string t.f1,.int .i64 t.f2] 47 (0,0)):=by
  have:=zA4 (w3.setCell ⟨X,2,none⟩ (.string t.f1)) (.cells #[.int .i64 t.f0,.string t.f1,.int .i64 t.f2] 47);rw[kAN] at this;exact this
 obtain⟨⟨c0,c1,c2,c3,c4,c5⟩,⟨y0,y1,y2,y3,y4,y5⟩,-⟩:=zA6 x3;go_wp2_with fail;have hTl:=zA5 t4;generalize w3.heap.size=T at *;generalize (w3.setCell ⟨X,2,none⟩ (.string t.f1)).alloc (.cells #[.int .i64 t.f0,.string t.f1,.int .i64 t.f2] 47)=w4 at *;clear c0 c1 c2 c3 c4 c5 y0 y1 y2 y3 y4 y5 x3 M3;have M4d:=M4.below ((kA3 _ w4).drew);have x4d:w4.drew.heap[X]?=_:=x4;have t4d:w4.drew.heap[T]?=_:=t4;have k0:=zA1 t4d 0;have k1:=zA1 t4d 1;have z1:=zA1 x4d 1;have z2:=zA1 x4d 2;simp at k0 k1 z1 z2;refine zDE (n:=18) (S:=fun w'=>w'.cell? ⟨T,0,none⟩=some (.int .i64 t.f0)∧w'.cell? ⟨T,1,none⟩=some (.string t.f1)∧w'.cell? ⟨X,1,none⟩=some (.string num)∧w'.cell? ⟨X,2,none⟩=some (.string t.f1)) (ds:=[]) #[false,false,false,false,false,false,false,false,false,false,false,false,false,false,false,false,false,false] kD5 rfl rfl ⟨k0,k1,z1,z2⟩ (fun hHeld=>?_);refine zAq (i:=0) (N:=some 23) (v:=?_) (a':=?_) #[true,false,false,false,false,false,false,false,false,false,false,false,false,false,false,false,false,false] rfl rfl kD5 (fun _ _ _ h=>h) (Or.inl ⟨kD9,?_⟩) ?_ ?_;rotate_left
 ·intro w';go_simp
  with_reducible rfl
 rotate_left
 ·simp only[Act.put,kA0,List.set_cons_zero,List.set_cons_succ,zAd,zAe];rfl
 refine zAq (i:=1) (N:=some 24) (v:=?_) (a':=?_) #[true,true,false,false,false,false,false,false,false,false,false,false,false,false,false,false,false,false] rfl rfl kD5 (fun _ _ _ h=>h) (Or.inl ⟨kD9,?_⟩) ?_ ?_;rotate_left
 ·intro w';go_simp
  with_reducible rfl
 rotate_left
 ·simp only[Act.put,kA0,List.set_cons_zero,List.set_cons_succ,zAd,zAe];rfl
 refine zAq (i:=2) (N:=some 25) (v:=?_) (a':=?_) #[true,true,true,false,false,false,false,false,false,false,false,false,false,false,false,false,false,false] rfl rfl kD5 (fun _ _ _ h=>h) (Or.inl ⟨kD9,?_⟩) ?_ ?_;rotate_left
 ·intro w';go_simp
  with_reducible rfl
 rotate_left
 ·simp only[Act.put,kA0,List.set_cons_zero,List.set_cons_succ,zAd,zAe];rfl
 refine zAq (i:=3) (N:=some 26) (v:=?_) (a':=?_) #[true,true,true,true,false,false,false,false,false,false,false,false,false,false,false,false,false,false] rfl rfl kD5 (fun _ _ _ h=>h) (Or.inl ⟨kD9,?_⟩) ?_ ?_;rotate_left
 ·intro w';go_simp
  with_reducible rfl
 rotate_left
 ·simp only[Act.put,kA0,List.set_cons_zero,List.set_cons_succ,zAd,zAe];rfl
 refine zDd (i:=4) (N:=some 27) (v:=?_) (a':=?_) #[true,true,true,true,true,false,false,false,false,false,false,false,false,false,false,false,false,false] rfl rfl kD5 (fun _ _ _ h=>h) (Or.inl ⟨kD9,?_⟩) hHeld ?_ ?_;rotate_left
 ·rintro w'⟨s0,s1,s2,s3⟩;go_simp
  with_reducible rfl
 rotate_left
 ·simp only[Act.put,kA0,List.set_cons_zero,List.set_cons_succ,zAd,zAe];rfl
 refine zAq (i:=5) (N:=some 28) (v:=?_) (a':=?_) #[true,true,true,true,true,true,false,false,false,false,false,false,false,false,false,false,false,false] rfl rfl kD5 (fun _ _ _ h=>h) (Or.inl ⟨kD9,?_⟩) ?_ ?_;rotate_left
 ·intro w';go_simp
  with_reducible rfl
 rotate_left
 ·simp only[Act.put,kA0,List.set_cons_zero,List.set_cons_succ,zAd,zAe];rfl
 refine zAq (i:=6) (N:=some 29) (v:=?_) (a':=?_) #[true,true,true,true,true,true,true,false,false,false,false,false,false,false,false,false,false,false] rfl rfl kD5 (fun _ _ _ h=>h) (Or.inl ⟨kD9,?_⟩) ?_ ?_;rotate_left
 ·intro w';go_simp
  with_reducible rfl
 rotate_left
 ·simp only[Act.put,kA0,List.set_cons_zero,List.set_cons_succ,zAd,zAe];rfl
 refine zAq (i:=7) (N:=some 30) (v:=?_) (a':=?_) #[true,true,true,true,true,true,true,true,false,false,false,false,false,false,false,false,false,false] rfl rfl kD5 (fun _ _ _ h=>h) (Or.inl ⟨kD9,?_⟩) ?_ ?_;rotate_left
 ·intro w';go_simp
  with_reducible rfl
 rotate_left
 ·simp only[Act.put,kA0,List.set_cons_zero,List.set_cons_succ,zAd,zAe];rfl
 refine zDd (i:=8) (N:=some 31) (v:=?_) (a':=?_) #[true,true,true,true,true,true,true,true,true,false,false,false,false,false,false,false,false,false] rfl rfl kD5 (fun _ _ _ h=>h) (Or.inl ⟨kD9,?_⟩) hHeld ?_ ?_;rotate_left
 ·rintro w'⟨s0,s1,s2,s3⟩;go_simp
  with_reducible rfl
 rotate_left
 ·simp only[Act.put,kA0,List.set_cons_zero,List.set_cons_succ,zAd,zAe];rfl
 refine zAq (i:=9) (N:=some 32) (v:=?_) (a':=?_) #[true,true,true,true,true,true,true,true,true,true,false,false,false,false,false,false,false,false] rfl rfl kD5 (fun _ _ _ h=>h) (Or.inl ⟨kD9,?_⟩) ?_ ?_;rotate_left
 ·intro w';go_simp
  with_reducible rfl
 rotate_left
 ·simp only[Act.put,kA0,List.set_cons_zero,List.set_cons_succ,zAd,zAe];rfl
 refine zAq (i:=10) (N:=some 33) (v:=?_) (a':=?_) #[true,true,true,true,true,true,true,true,true,true,true,false,false,false,false,false,false,false] rfl rfl kD5 (fun _ _ _ h=>h) (Or.inl ⟨kD9,?_⟩) ?_ ?_;rotate_left
 ·intro w';go_simp
  with_reducible rfl
 rotate_left
 ·simp only[Act.put,kA0,List.set_cons_zero,List.set_cons_succ,zAd,zAe];rfl
 refine zAq (i:=11) (N:=some 34) (v:=?_) (a':=?_) #[true,true,true,true,true,true,true,true,true,true,true,true,false,false,false,false,false,false] rfl rfl kD5 (fun _ _ _ h=>h) (Or.inl ⟨kD9,?_⟩) ?_ ?_;rotate_left
 ·intro w';go_simp
  with_reducible rfl
 rotate_left
 ·simp only[Act.put,kA0,List.set_cons_zero,List.set_cons_succ,zAd,zAe];rfl
 refine zAq (i:=12) (N:=some 35) (v:=?_) (a':=?_) #[true,true,true,true,true,true,true,true,true,true,true,true,true,false,false,false,false,false] rfl rfl kD5 (fun _ _ _ h=>h) (Or.inl ⟨kD9,?_⟩) ?_ ?_;rotate_left
 ·intro w';go_simp
  with_reducible rfl
 rotate_left
 ·simp only[Act.put,kA0,List.set_cons_zero,List.set_cons_succ,zAd,zAe];rfl
 refine zDd (i:=13) (N:=some 36) (v:=?_) (a':=?_) #[true,true,true,true,true,true,true,true,true,true,true,true,true,true,false,false,false,false] rfl rfl kD5 (fun _ _ _ h=>h) (Or.inl ⟨kD9,?_⟩) hHeld ?_ ?_;rotate_left
 ·rintro w'⟨s0,s1,s2,s3⟩;go_simp
  with_reducible rfl
 rotate_left
 ·simp only[Act.put,kA0,List.set_cons_zero,List.set_cons_succ,zAd,zAe];rfl
 refine one_ (i:=14) (N:=some 37) #[true,true,true,true,true,true,true,true,true,true,true,true,true,true,true,false,false,false] rfl rfl kD5 kD7 (fun K hK=>?_);have hr5:=Hrc.out _ M4d.st.low;refine goes_ Tryz.func141 kD5 rfl #[.agg #[.string num,.string t.f1]] kD9 rfl rfl kDo ?_
 with_reducible refine (hr5).mono ?_
 rintro e w5⟨rfl,hb5⟩;refine⟨_,rfl,?_⟩;refine hK.out _ _ ⟨(zA0 hb5 k0),(zA0 hb5 k1),(zA0 hb5 z1),(zA0 hb5 z2)⟩ (fun hHeld=>?_);clear hK K;refine zCc (a':=?_) ?_ ?_;rotate_left
 ·show Act.put _ (some 37) _=_;simp only[Act.put,kA0,List.set_cons_zero,List.set_cons_succ,zAd,zAe];rfl
 refine zAq (i:=15) (N:=some 38) (v:=?_) (a':=?_) #[true,true,true,true,true,true,true,true,true,true,true,true,true,true,true,true,false,false] rfl rfl kD5 (fun _ _ _ h=>h) (Or.inl ⟨kD9,?_⟩) ?_ ?_;rotate_left
 ·intro w';go_simp
  with_reducible rfl
 rotate_left
 ·simp only[Act.put,kA0,List.set_cons_zero,List.set_cons_succ,zAd,zAe];rfl
 refine zAq (i:=16) (N:=some 39) (v:=?_) (a':=?_) #[true,true,true,true,true,true,true,true,true,true,true,true,true,true,true,true,true,false] rfl rfl kD5 (fun _ _ _ h=>h) (Or.inl ⟨kD9,?_⟩) ?_ ?_;rotate_left
 ·intro w';go_simp
  with_reducible rfl
 rotate_left
 ·simp only[Act.put,kA0,List.set_cons_zero,List.set_cons_succ,zAd,zAe];rfl
 refine one_ (i:=17) (N:=some 40) #[true,true,true,true,true,true,true,true,true,true,true,true,true,true,true,true,true,true] rfl rfl kD5 kD7 (fun K hK=>?_);have hm:=Hmf.out w5 (M4d.below hb5).st.rdr;refine panics_ Tryz.func93 kD5 rfl #[.pointer (some ⟨R,0,none⟩),.bool false] kD9 rfl kDo ?_
 with_reducible refine hm.mono ?_
 rintro e w6⟨rfl,hb6⟩;exact⟨_,rfl,rfl,rfl,kAk (M4d.below hb5).took.grown hb6⟩
theorem lit_quot (W0:World) (R B:Nat) (ts:List S47) (en now:Nat) (w:World) (E:Env W0 R B ts) (hS:Start W0) (h:St W0 R B ts en now w) (h2:(tokP ts en now).f0=2) (hbar:sk ts en (now+1) ⟨#[124]⟩=true)
  (hk:(tokP ts en (now+2)).f0=2) (hne:(tokP ts en (now+2)).f1.toList≠[49]) (hc:chkR ⟨(tokP ts en now).f1,(tokP ts en (now+2)).f1⟩=0) :
  Calls Tryz.prog 278 #[.pointer (some ⟨R,0,none⟩)] w (zAk w R ts en now (zFl ts en ⟨(tokP ts en now).f1,(tokP ts en (now+2)).f1⟩ (now+2+1))):=by
 have hlt:=zBP h2 kD7;have hlt1:=zAv hbar;have few:=E.few;have hRw:=h.rdr.lt;have M0:=Mid.start h;have hkd:=zCC R ts now en 2 (w.alloc zO) M0.st.rdr hlt few kDA;have hsk:=kA1 (fun w' hr=>zAE R ts (now+1) en ⟨#[124]⟩ w' hr few hbar);have hpk:=fun w' (hr:Rdr w' R ts (now+2) en)=>zB7 R ts (now+2) en w' hr kD4
 have hmf:=fun w' (hr:Rdr w' R ts (now+2) en)=>zC4 R ts (now+2) en w' hr kD4
 have hrc:=fun (w':World) (hb:Below W0.heap.size W0 w')=>zBl (tokP ts en now).f1 (tokP ts en (now+2)).f1 (kAB (zBx (en:=en) (now:=now) E.small) kD4) (kAB (zBx (en:=en) (now:=now+2) E.small) kD4) w' (hS.below hb)
 have hlt2:=zBP hk kD7;rw[hc] at hrc;unfold tokV at hpk;have hk':((tokP ts en (now+2)).f0==2)=true:=by rw[kAA];exact hk
 have hne':((tokP ts en (now+2)).f1.toList == [49])=false:=kAd.2 hne;have hpk3:=fun w' (hr:Rdr w' R ts (now+2+1) en)=>zB7 R ts (now+2+1) en w' hr hlt2
 have hkd3:=fun (e:(tokP ts en (now+2+1)).f0=3) w' (hr:Rdr w' R ts (now+2+1) en)=>zCC R ts (now+2+1) en 3 w' hr (zBP e kD7) few (by rw[kAA];exact e)
 unfold tokV at hpk3;generalize hres:zFl ts en ⟨(tokP ts en now).f1,(tokP ts en (now+2)).f1⟩ (now+2+1)=res;unfold zFl at hres;generalize (tokP ts en now).f1=num at *;generalize tokP ts en (now+2)=t at *;have hlt3:(tokP ts en (now+2+1)).f0=3→now+2+1<ts.length:=fun e=>zBP e kD7
 generalize tokP ts en (now+2+1)=t3 at *;have Hpk:=kA1 hpk;have Hrc:=kA1 hrc;have Hpk3:=kA1 hpk3;have Hkd3:=kA1 hkd3;have Hres:=kA1 hres;have Hlt3:=kA1 hlt3;clear h2 hbar hk hne hc h hpk hrc hpk3 hkd3 hres hlt3 hmf;have hfd:=zBR t3.f0 t3.f2 t3.f1;go_enter Tryz.func278,Tryz.ntmps278;go_wp2_with fail;refine hkd.mono ?_;rintro e w1 ⟨rfl,hk1⟩;have M1:=M0.go E hRw hk1 hlt;have M1x:=M1.alloc (.cells #[.int .i64 0,.string num,.string ⟨#[49]⟩,.string ⟨#[]⟩,.int .i64 0,.slice none 0 0] 31);have xb:=zA4 w1 (.cells #[.int .i64 0,.string num,.string ⟨#[49]⟩,.string ⟨#[]⟩,.int .i64 0,.slice none 0 0] 31);have hXR:w1.heap.size≠R:=kAs hk1.rdr.lt;have hXw:w.heap.size<w1.heap.size:=M1.lt;have hs:=hsk.out _ M1x.st.rdr;clear hkd hk1 M0 M1;go_wp2_with fail;refine hs.mono ?_;rintro e w2 ⟨rfl,hk2⟩;have M2:=M1x.go E hRw hk2 hlt1;have x2:=hk2.blk xb hXR;generalize w1.heap.size=X at *;have hp:=Hpk.out w2 M2.st.rdr;clear hs hk2 M1x xb hsk;go_wp2_with fail;refine hp.mono ?_;rintro e w3 ⟨rfl,hb3⟩;have M3:=M2.below hb3;have x3:=zAa hb3 x2;have hXl:=zA5 x3;clear hp hb3 M2 x2;have M4:=(M3.setX E hRw hXR hXw x3 2 (.string t.f1)).alloc (.cells #[.int .i64 t.f0,.string t.f1,.int .i64 t.f2] 47);have x4:((w3.setCell ⟨X,2,none⟩ (.string t.f1)).alloc (.cells #[.int .i64 t.f0,.string t.f1,.int .i64 t.f2] 47)).heap[X]?=some (.cells #[.int .i64 0,.string num,.string t.f1,.string ⟨#[]⟩,.int .i64 0,.slice none 0 0] 31 (0,0)):=(kA4 _ _ _ kDN).trans (zA8 x3 2 (.string t.f1));have t4:((w3.setCell ⟨X,2,none⟩ (.string t.f1)).alloc (.cells #[.int .i64 t.f0,.string t.f1,.int .i64 t.f2] 47)).heap[w3.heap.size]?=some (.cells #[.int .i64 t.f0,.string t.f1,.int .i64 t.f2] 47 (0,0)):=by
  have:=zA4 (w3.setCell ⟨X,2,none⟩ (.string t.f1)) (.cells #[.int .i64 t.f0,.string t.f1,.int .i64 t.f2] 47);rw[kAN] at this;exact this
 obtain⟨⟨c0,c1,c2,c3,c4,c5⟩,⟨y0,y1,y2,y3,y4,y5⟩,-⟩:=zA6 x3;go_wp2_with fail;have hTl:=zA5 t4;generalize w3.heap.size=T at *;generalize (w3.setCell ⟨X,2,none⟩ (.string t.f1)).alloc (.cells #[.int .i64 t.f0,.string t.f1,.int .i64 t.f2] 47)=w4 at *;clear c0 c1 c2 c3 c4 c5 y0 y1 y2 y3 y4 y5 x3 M3;have M4d:=M4.below ((kA3 _ w4).drew);have x4d:w4.drew.heap[X]?=_:=x4;have t4d:w4.drew.heap[T]?=_:=t4;have k0:=zA1 t4d 0;have k1:=zA1 t4d 1;have z1:=zA1 x4d 1;have z2:=zA1 x4d 2;simp at k0 k1 z1 z2;refine zDE (n:=18) (S:=fun w'=>w'.cell? ⟨T,0,none⟩=some (.int .i64 t.f0)∧w'.cell? ⟨T,1,none⟩=some (.string t.f1)∧w'.cell? ⟨X,1,none⟩=some (.string num)∧w'.cell? ⟨X,2,none⟩=some (.string t.f1)) (ds:=[]) #[false,false,false,false,false,false,false,false,false,false,false,false,false,false,false,false,false,false] kD5 rfl rfl ⟨k0,k1,z1,z2⟩ (fun hHeld=>?_);refine zAq (i:=0) (N:=some 23) (v:=?_) (a':=?_) #[true,false,false,false,false,false,false,false,false,false,false,false,false,false,false,false,false,false] rfl rfl kD5 (fun _ _ _ h=>h) (Or.inl ⟨kD9,?_⟩) ?_ ?_;rotate_left
 ·intro w';go_simp
  with_reducible rfl
 rotate_left
 ·simp only[Act.put,kA0,List.set_cons_zero,List.set_cons_succ,zAd,zAe];rfl
 refine zAq (i:=1) (N:=some 24) (v:=?_) (a':=?_) #[true,true,false,false,false,false,false,false,false,false,false,false,false,false,false,false,false,false] rfl rfl kD5 (fun _ _ _ h=>h) (Or.inl ⟨kD9,?_⟩) ?_ ?_;rotate_left
 ·intro w';go_simp
  with_reducible rfl
 rotate_left
 ·simp only[Act.put,kA0,List.set_cons_zero,List.set_cons_succ,zAd,zAe];rfl
 refine zAq (i:=2) (N:=some 25) (v:=?_) (a':=?_) #[true,true,true,false,false,false,false,false,false,false,false,false,false,false,false,false,false,false] rfl rfl kD5 (fun _ _ _ h=>h) (Or.inl ⟨kD9,?_⟩) ?_ ?_;rotate_left
 ·intro w';go_simp
  with_reducible rfl
 rotate_left
 ·simp only[Act.put,kA0,List.set_cons_zero,List.set_cons_succ,zAd,zAe];rfl
 refine zAq (i:=3) (N:=some 26) (v:=?_) (a':=?_) #[true,true,true,true,false,false,false,false,false,false,false,false,false,false,false,false,false,false] rfl rfl kD5 (fun _ _ _ h=>h) (Or.inl ⟨kD9,?_⟩) ?_ ?_;rotate_left
 ·intro w';go_simp
  with_reducible rfl
 rotate_left
 ·simp only[Act.put,kA0,List.set_cons_zero,List.set_cons_succ,zAd,zAe];rfl
 refine zDd (i:=4) (N:=some 27) (v:=?_) (a':=?_) #[true,true,true,true,true,false,false,false,false,false,false,false,false,false,false,false,false,false] rfl rfl kD5 (fun _ _ _ h=>h) (Or.inl ⟨kD9,?_⟩) hHeld ?_ ?_;rotate_left
 ·rintro w'⟨s0,s1,s2,s3⟩;go_simp
  with_reducible rfl
 rotate_left
 ·simp only[Act.put,kA0,List.set_cons_zero,List.set_cons_succ,zAd,zAe];rfl
 refine zAq (i:=5) (N:=some 28) (v:=?_) (a':=?_) #[true,true,true,true,true,true,false,false,false,false,false,false,false,false,false,false,false,false] rfl rfl kD5 (fun _ _ _ h=>h) (Or.inl ⟨kD9,?_⟩) ?_ ?_;rotate_left
 ·intro w';go_simp
  with_reducible rfl
 rotate_left
 ·simp only[Act.put,kA0,List.set_cons_zero,List.set_cons_succ,zAd,zAe];rfl
 refine zAq (i:=6) (N:=some 29) (v:=?_) (a':=?_) #[true,true,true,true,true,true,true,false,false,false,false,false,false,false,false,false,false,false] rfl rfl kD5 (fun _ _ _ h=>h) (Or.inl ⟨kD9,?_⟩) ?_ ?_;rotate_left
 ·intro w';go_simp
  with_reducible rfl
 rotate_left
 ·simp only[Act.put,kA0,List.set_cons_zero,List.set_cons_succ,zAd,zAe];rfl
 refine zAq (i:=7) (N:=some 30) (v:=?_) (a':=?_) #[true,true,true,true,true,true,true,true,false,false,false,false,false,false,false,false,false,false] rfl rfl kD5 (fun _ _ _ h=>h) (Or.inl ⟨kD9,?_⟩) ?_ ?_;rotate_left
 ·intro w';go_simp
  with_reducible rfl
 rotate_left
 ·simp only[Act.put,kA0,List.set_cons_zero,List.set_cons_succ,zAd,zAe];rfl
 refine zDd (i:=8) (N:=some 31) (v:=?_) (a':=?_) #[true,true,true,true,true,true,true,true,true,false,false,false,false,false,false,false,false,false] rfl rfl kD5 (fun _ _ _ h=>h) (Or.inl ⟨kD9,?_⟩) hHeld ?_ ?_;rotate_left
 ·rintro w'⟨s0,s1,s2,s3⟩;go_simp
  with_reducible rfl
 rotate_left
 ·simp only[Act.put,kA0,List.set_cons_zero,List.set_cons_succ,zAd,zAe];rfl
 refine zAq (i:=9) (N:=some 32) (v:=?_) (a':=?_) #[true,true,true,true,true,true,true,true,true,true,false,false,false,false,false,false,false,false] rfl rfl kD5 (fun _ _ _ h=>h) (Or.inl ⟨kD9,?_⟩) ?_ ?_;rotate_left
 ·intro w';go_simp
  with_reducible rfl
 rotate_left
 ·simp only[Act.put,kA0,List.set_cons_zero,List.set_cons_succ,zAd,zAe];rfl
 refine zAq (i:=10) (N:=some 33) (v:=?_) (a':=?_) #[true,true,true,true,true,true,true,true,true,true,true,false,false,false,false,false,false,false] rfl rfl kD5 (fun _ _ _ h=>h) (Or.inl ⟨kD9,?_⟩) ?_ ?_;rotate_left
 ·intro w';go_simp
  with_reducible rfl
 rotate_left
 ·simp only[Act.put,kA0,List.set_cons_zero,List.set_cons_succ,zAd,zAe];rfl
 refine zAq (i:=11) (N:=some 34) (v:=?_) (a':=?_) #[true,true,true,true,true,true,true,true,true,true,true,true,false,false,false,false,false,false] rfl rfl kD5 (fun _ _ _ h=>h) (Or.inl ⟨kD9,?_⟩) ?_ ?_;rotate_left
 ·intro w';go_simp
  with_reducible rfl
 rotate_left
 ·simp only[Act.put,kA0,List.set_cons_zero,List.set_cons_succ,zAd,zAe];rfl
 refine zAq (i:=12) (N:=some 35) (v:=?_) (a':=?_) #[true,true,true,true,true,true,true,true,true,true,true,true,true,false,false,false,false,false] rfl rfl kD5 (fun _ _ _ h=>h) (Or.inl ⟨kD9,?_⟩) ?_ ?_;rotate_left
 ·intro w';go_simp
  with_reducible rfl
 rotate_left
 ·simp only[Act.put,kA0,List.set_cons_zero,List.set_cons_succ,zAd,zAe];rfl
 refine zDd (i:=13) (N:=some 36) (v:=?_) (a':=?_) #[true,true,true,true,true,true,true,true,true,true,true,true,true,true,false,false,false,false] rfl rfl kD5 (fun _ _ _ h=>h) (Or.inl ⟨kD9,?_⟩) hHeld ?_ ?_;rotate_left
 ·rintro w'⟨s0,s1,s2,s3⟩;go_simp
  with_reducible rfl
 rotate_left
 ·simp only[Act.put,kA0,List.set_cons_zero,List.set_cons_succ,zAd,zAe];rfl
 refine one_ (i:=14) (N:=some 37) #[true,true,true,true,true,true,true,true,true,true,true,true,true,true,true,false,false,false] rfl rfl kD5 kD7 (fun K hK=>?_);have hr5:=Hrc.out _ M4d.st.low;refine goes_ Tryz.func141 kD5 rfl #[.agg #[.string num,.string t.f1]] kD9 rfl rfl kDo ?_
 with_reducible refine (hr5).mono ?_
 rintro e w5⟨rfl,hb5⟩;refine⟨_,rfl,?_⟩;refine hK.out _ _ ⟨(zA0 hb5 k0),(zA0 hb5 k1),(zA0 hb5 z1),(zA0 hb5 z2)⟩ (fun hHeld=>?_);clear hK K;refine zCc (a':=?_) ?_ ?_;rotate_left
 ·show Act.put _ (some 37) _=_;simp only[Act.put,kA0,List.set_cons_zero,List.set_cons_succ,zAd,zAe];rfl
 refine zAq (i:=15) (N:=some 38) (v:=?_) (a':=?_) #[true,true,true,true,true,true,true,true,true,true,true,true,true,true,true,true,false,false] rfl rfl kD5 (fun _ _ _ h=>h) (Or.inl ⟨kD9,?_⟩) ?_ ?_;rotate_left
 ·intro w';go_simp
  with_reducible rfl
 rotate_left
 ·simp only[Act.put,kA0,List.set_cons_zero,List.set_cons_succ,zAd,zAe];rfl
 refine zAq (i:=16) (N:=some 39) (v:=?_) (a':=?_) #[true,true,true,true,true,true,true,true,true,true,true,true,true,true,true,true,true,false] rfl rfl kD5 (fun _ _ _ h=>h) (Or.inl ⟨kD9,?_⟩) ?_ ?_;rotate_left
 ·intro w';go_simp
  with_reducible rfl
 rotate_left
 ·simp only[Act.put,kA0,List.set_cons_zero,List.set_cons_succ,zAd,zAe];rfl
 refine one_ (i:=17) (N:=some 40) #[true,true,true,true,true,true,true,true,true,true,true,true,true,true,true,true,true,true] rfl rfl kD5 kD7 (fun K hK=>?_);refine goes_ Tryz.func93 kD5 rfl #[.pointer (some ⟨R,0,none⟩),.bool true] kD9 rfl rfl kDo ?_
 with_reducible refine (zDK R w5).mono ?_
 rintro e w6⟨rfl,hw6⟩;refine⟨_,rfl,?_⟩;subst hw6;refine hK.out _ _ ⟨(zA0 hb5 k0),(zA0 hb5 k1),(zA0 hb5 z1),(zA0 hb5 z2)⟩ (fun hHeld=>?_);clear hK K;refine zCc (a':=?_) ?_ ?_;rotate_left
 ·show Act.put _ (some 40) _=_;simp only[Act.put,kA0,List.set_cons_zero,List.set_cons_succ,zAd,zAe];rfl
 refine done_ kD5 ?_;have M5:=M4d.below hb5;have x5:=zAa hb5 x4d;clear M4 M4d x4 x4d t4 t4d k0 k1 z1 z2 hb5 hne' hk' Hrc Hpk;have hnn:now<now+2+1:=kD4
 generalize now+2=n2 at *;obtain⟨a1,f1,-,-,lt⟩:=M5.st.rdr.cells;have K:=Took.next M5.st.rdr (kA3 _ _)
 have M6:=M5.go E hRw K hlt2;have x6:=K.blk x5 hXR;have hp3:=Hpk3.out _ M6.st.rdr;clear K;by_cases h3:t3.f0=3
 ·have hne3:(t3.f0==3)=true:=by rw[kAA];exact h3
  have hres:=Hres.out;rw[kAa h3] at hres;have Hr:=kA1 hres;have Hkd:=kA1 (Hkd3.out h3);have hl3:=Hlt3.out h3;clear hres Hres Hkd3 Hlt3 h3;go_wp2_with fail;refine hp3.mono ?_;rintro e w7 ⟨rfl,hb7⟩;have M7:=M6.below hb7;have x7:=zAa hb7 x6;have hk:=Hkd.out _ M7.st.rdr;clear hp3 hb7 M5 M6 x5 x6 a1 f1;go_wp2_with fail;refine hk.mono ?_;rintro e w8 ⟨rfl,k8⟩;have M8:=M7.go E hRw k8 hl3;have x8:=k8.blk x7 hXR;obtain⟨⟨c0,c1,c2,c3,c4,c5⟩,⟨y0,y1,y2,y3,y4,y5⟩,xl⟩:=zA6 x8;obtain⟨⟨b0,b1,b2,b3,b4,b5⟩,⟨f0,f1,f2,f3,f4,f5⟩,rl⟩:=zA6 M8.res;have M9:=M8.setX E hRw hXR hXw x8 3 (.string t3.f1);have hfin:=fin6 (.int .i64 0) (.string num) (.string t.f1) (.string t3.f1) (.int .i64 0) (.slice none 0 0) M9.res;have hdone:=M9.done hRw (Ex.leaf ⟨0,⟨num,t.f1⟩,t3.f1,0,[]⟩ rfl) (show now<n2+1+1 by omega) (.int .i64 0) (.string num) (.string t.f1) (.string t3.f1) (.int .i64 0) (.slice none 0 0);simp only[set6] at hfin hdone;have HF:=kA1 hfin;have HD:=kA1 hdone;have hd1:=kAs hXw;have hd2:=kB8 hXw;clear hfin hdone M9 hk k8 M7 x7;go_wp2;rw[← Hr.out];exact kAi (zAg Tryz.results278 _ _ w.heap.size 31 _ (0,0) _ rfl HF.out Tryz.underlying31 rfl zB6) rfl HD.out
 ·have hne3:(t3.f0==3)=false:=by rw[kAd];exact h3
  have hres:=Hres.out;rw[kA9 h3] at hres;have Hr:=kA1 hres;clear hres Hres Hkd3 Hlt3 h3;go_wp2_with fail;refine hp3.mono ?_;rintro e w7 ⟨rfl,hb7⟩;have M7:=M6.below hb7;have x7:=zAa hb7 x6;obtain⟨⟨c0,c1,c2,c3,c4,c5⟩,⟨y0,y1,y2,y3,y4,y5⟩,xl⟩:=zA6 x7;obtain⟨⟨b0,b1,b2,b3,b4,b5⟩,⟨f0,f1,f2,f3,f4,f5⟩,rl⟩:=zA6 M7.res;have hfin:=fin6 (.int .i64 0) (.string num) (.string t.f1) (.string ⟨#[]⟩) (.int .i64 0) (.slice none 0 0) M7.res;have hdone:=M7.done hRw (Ex.leaf ⟨0,⟨num,t.f1⟩,⟨#[]⟩,0,[]⟩ rfl) hnn (.int .i64 0) (.string num) (.string t.f1) (.string ⟨#[]⟩) (.int .i64 0) (.slice none 0 0);simp only[set6] at hfin hdone;have HF:=kA1 hfin;have HD:=kA1 hdone;clear hfin hdone hp3 hb7 M5 M6 M7 x5 x6 x7;go_wp2;rw[← Hr.out];exact kAi (zAg Tryz.results278 _ _ w.heap.size 31 _ (0,0) _ rfl HF.out Tryz.underlying31 rfl zB6) rfl HD.out
end Go.Proofs.YtjaobihcdkjmbaaGreatDoor
end
