/- The law ReadBlanks answers true for every argument; a part of its proof. -/
import Derived.Test.YtjaobihcdkjmbaaGreatDoorBa
import Derived.Test.YtjaobihcdkjmbaaGreatDoorBb
import Derived.Test.YtjaobihcdkjmbaaGreatDoorB0
import Derived.Test.YtjaobihcdkjmbaaGreatDoorB7
import Derived.Test.YtjaobihcdkjmbaaGreatDoorB9
import Derived.Test.YtjaobihcdkjmbaaGreatDoorB11
import Derived.Test.YtjaobihcdkjmbaaGreatDoorB19
import Derived.Test.YtjaobihcdkjmbaaGreatDoorB20
import Derived.Test.YtjaobihcdkjmbaaGreatDoorB22
import Derived.Test.YtjaobihcdkjmbaaGreatDoorB23
import Derived.Test.YtjaobihcdkjmbaaGreatDoorB25
import Derived.Test.YtjaobihcdkjmbaaGreatDoorB28
import Derived.Test.YtjaobihcdkjmbaaGreatDoorB29
import Derived.Test.YtjaobihcdkjmbaaGreatDoorB31
import Derived.Test.YtjaobihcdkjmbaaGreatDoorB33
set_option linter.unusedVariables false
set_option linter.unusedSimpArgs false
namespace Go.Proofs.YtjaobihcdkjmbaaGreatDoor.PReadTokens
end Go.Proofs.YtjaobihcdkjmbaaGreatDoor.PReadTokens
namespace Go.Proofs.YtjaobihcdkjmbaaGreatDoorW.PrintWords
end Go.Proofs.YtjaobihcdkjmbaaGreatDoorW.PrintWords
set_option maxRecDepth 100000
set_option maxHeartbeats 2000000
section
namespace Go.Proofs.YtjaobihcdkjmbaaGreatDoor
open Go.RowKit Go.Proofs.YtjaobihcdkjmbaaGreatDoorW.PrintWords Go.Proofs.YtjaobihcdkjmbaaGreatDoor.PReadTokens
structure Plain (ts:List S47) (en:Nat):Prop where
 bar:∀i,sk ts en i ⟨#[124]⟩=false
 let_:∀i,sk ts en i ⟨#[108,101,116]⟩=false
 if_:∀i,sk ts en i ⟨#[105,102]⟩=false
 tab:∀i,sk ts en i ⟨#[116,97,98]⟩=false
 sum:∀i,sk ts en i ⟨#[115,117,109]⟩=false
theorem expr_plain (W0:World) (R B:Nat) (ts:List S47) (en now:Nat) (w:World) (E:Env W0 R B ts) (h:St W0 R B ts en now w)
  (h1:sk ts en now ⟨#[108,101,116]⟩=false) (h2:sk ts en now ⟨#[105,102]⟩=false) (h3:sk ts en now ⟨#[116,97,98]⟩=false) (h4:sk ts en now ⟨#[115,117,109]⟩=false) (r:PR)
  (hs:∀w',St W0 R B ts en now w'→Calls Tryz.prog 135 #[.pointer (some ⟨R,0,none⟩)] w' (zAj w' R ts en now r)) :
  Calls Tryz.prog 134 #[.pointer (some ⟨R,0,none⟩)] w (zAj w R ts en now r):=by
 have hRw:=h.rdr.lt;have M0:=Mid.start h;have hnow:=h.pos;have H1:=kA1 (fun w' hr=>zAQ R ts now en ⟨#[108,101,116]⟩ w' hr hnow h1);have H2:=kA1 (fun w' hr=>zAQ R ts now en ⟨#[105,102]⟩ w' hr hnow h2);have H3:=kA1 (fun w' hr=>zAQ R ts now en ⟨#[116,97,98]⟩ w' hr hnow h3);have H4:=kA1 (fun w' hr=>zAQ R ts now en ⟨#[115,117,109]⟩ w' hr hnow h4);have HS:=kA1 hs;clear h h1 h2 h3 h4 hs;have s1:=H1.out _ M0.st.rdr;go_enter Tryz.func134,Tryz.ntmps134;go_wp2_with fail;refine s1.mono ?_;rintro e w1 ⟨rfl,k1⟩;have M1:=M0.go E hRw k1 hnow;have s2:=H2.out _ M1.st.rdr;go_wp2_with fail;refine s2.mono ?_;rintro e w2 ⟨rfl,k2⟩;have M2:=M1.go E hRw k2 hnow;have s3:=H3.out _ M2.st.rdr;go_wp2_with fail;refine s3.mono ?_;rintro e w3 ⟨rfl,k3⟩;have M3:=M2.go E hRw k3 hnow;have s4:=H4.out _ M3.st.rdr;go_wp2_with fail;refine s4.mono ?_;rintro e w4 ⟨rfl,k4⟩;have M4:=M3.go E hRw k4 hnow;have hl:=HS.out _ M4.st;obtain⟨c1,f1,c3,c4,lt⟩:=M4.st.rdr.cells
 cases r with
 | error p =>
  unfold zAj zAk at hl;go_wp2_with (go_at_call 135;refine hl.mono ?_;rintro e w2 ⟨rfl,hg⟩);exact⟨rfl,rfl,kA6 M4.took.grown hg⟩
 | ok r =>
  obtain⟨x,n⟩:=r;unfold zAj at hl;go_wp2_with fail;refine hl.mono ?_;rintro e w5 ⟨hn1,hn2,v,rfl,hx,hk⟩;obtain⟨v5,A5,n5,c5,rfl,rfl,_,_⟩:=hx.cells;unfold exV;have M5:=M4.go E hRw hk hn2;have hx2:=hx.mono (fun k hk=>kBa M4.lt hk);obtain⟨⟨q0,q1,q2,q3,q4,q5⟩,⟨f0,f1,f2,f3,f4,f5⟩,xl2⟩:=zA6 M5.res;go_wp2;refine kAi (zAg Tryz.results134 _ _ w.heap.size 31 _ (0,0) _ rfl (fin6 _ _ _ _ _ _ M5.res) Tryz.underlying31 rfl zAV) rfl (M5.done hRw hx2 kCT _ _ _ _ _ _)
theorem pars_plain (W0:World) (R B:Nat) (ts:List S47) (en:Nat) (chk:S28→Int) (E:Env W0 R B ts) (hpl:Plain ts en) :
  ∀k m,ts.length<m+k→Pars W0 R B ts en 134 (zCY ts en chk k) m:=by
 intro k
 induction k with
 | zero=>intro m hm now w hmn h;have:=h.pos;omega
 | succ k ih =>
  intro m hm;have hex:=ih (m+1) kCT;have hatom:Pars W0 R B ts en 252 (atomS ts en chk (zCY ts en chk k)) m:=atom_walk W0 R B ts en chk _ m E (fun now w hmn h h2=>by
   unfold litS;rw[kA9 (by rw[hpl.bar];decide)];exact lit_plain W0 R B ts en now w E h h2 (hpl.bar _)) hex
  have helem:Pars W0 R B ts en 217 (zCk ts en chk (zCY ts en chk k)) m:=fun now w hmn h=>zF8 W0 R B ts en chk _ m now w E h hmn hatom hex
  have hpow:Pars W0 R B ts en 180 (zCv ts en chk (zCY ts en chk k)) m:=fun now w hmn h=>power_walk W0 R B ts en chk _ m now w E h hmn helem
  have hprod:Pars W0 R B ts en 160 (zAO ts en chk (zCY ts en chk k)) m:=fun now w hmn h=>zF5 W0 R B ts en chk _ m now w E h hmn hpow
  have hsums:=sums_walk W0 R B ts en chk (zCY ts en chk k) m E hprod;intro now w hmn h;unfold zCY exprB;rw[kA9 (by rw[hpl.let_];decide),kA9 (by rw[hpl.if_];decide),kA9 (by rw[hpl.tab];decide),kA9 (by rw[hpl.sum];decide)];exact expr_plain W0 R B ts en now w E h (hpl.let_ _) (hpl.if_ _) (hpl.tab _) (hpl.sum _) _ (fun w' h'=>hsums now w' hmn h')
def zFl (t:S47):Bool:=!zCW t ⟨#[124]⟩ && !zCW t ⟨#[108,101,116]⟩ && !zCW t ⟨#[105,102]⟩ && !zCW t ⟨#[116,97,98]⟩ && !zCW t ⟨#[115,117,109]⟩
theorem plain_of {ts:List S47} (en:Nat) (h:ts.all zFl=true):Plain ts en:=by
 have key:∀i,zFl (tokP ts en i)=true:=by
  intro i;unfold tokP;split
  ·rename_i hi;exact kBi.1 h _ (kAA _)
  ·rfl
 have k2:∀i,zCW (tokP ts en i) ⟨#[124]⟩=false∧zCW (tokP ts en i) ⟨#[108,101,116]⟩=false∧zCW (tokP ts en i) ⟨#[105,102]⟩=false∧zCW (tokP ts en i) ⟨#[116,97,98]⟩=false∧zCW (tokP ts en i) ⟨#[115,117,109]⟩=false:=by
  intro i;have:=key i;unfold zFl at this;simpa[kAj,and_assoc] using this
 exact⟨fun i=>(k2 i).1,fun i=>(k2 i).2.1,fun i=>(k2 i).2.2.1,fun i=>(k2 i).2.2.2.1,fun i=>(k2 i).2.2.2.2⟩
def zCn (s:ByteArray):Bool:=decide (s.size≤2000)&&decide ((zA8 s).length≤100000)&&(zA8 s).all (fun t=>decide (t.f1.size≤2000))&&(zA8 s).all zFl
theorem zCi (chk:S28→Int) (s:ByteArray) (h:zCn s=true):Readable chk s:=by
 unfold zCn at h;simp only[kAj,kAN] at h;obtain⟨⟨⟨h1,h2⟩,h3⟩,h4⟩:=h;refine⟨h1,h2,fun t ht=>kAl (kBi.1 h3 t ht),fun W0 R B E=>?_⟩;exact pars_plain W0 R B (zA8 s) s.size chk E (plain_of _ h4) _ 0 kCT
abbrev tA:ByteArray:=⟨#[49,32,43,32,120,32,42,32,50]⟩
abbrev tB:ByteArray:=⟨#[102,40,97,41,91,105,93]⟩
abbrev tC:ByteArray:=⟨#[45,97,42,98,94,45,50]⟩
abbrev tD:ByteArray:=⟨#[97,45,40,98,45,99,41]⟩
abbrev tE:ByteArray:=⟨#[49,32,50]⟩
def lit1:S31:=⟨0,⟨⟨#[49]⟩,⟨#[49]⟩⟩,⟨#[]⟩,0,[]⟩
def lit2:S31:=⟨0,⟨⟨#[50]⟩,⟨#[49]⟩⟩,⟨#[]⟩,0,[]⟩
def refX (n:ByteArray):S31:=⟨1,z28,n,0,[]⟩
def xA:S31:=twoX 3 lit1 (twoX 5 (refX ⟨#[120]⟩) lit2)
def xB:S31:=twoX 9 ⟨14,z28,⟨#[102]⟩,0,[refX ⟨#[97]⟩]⟩ (refX ⟨#[105]⟩)
def xC:S31:=⟨2,z28,⟨#[]⟩,0,[twoX 5 (refX ⟨#[97]⟩) ⟨7,z28,⟨#[]⟩,-2,[refX ⟨#[98]⟩]⟩]⟩
def xD:S31:=twoX 4 (refX ⟨#[97]⟩) (twoX 4 (refX ⟨#[98]⟩) (refX ⟨#[99]⟩))
theorem plainA:zCn tA=true:=kCU
theorem plainB:zCn tB=true:=kCU
theorem plainC:zCn tC=true:=kCU
theorem plainD:zCn tD=true:=kCU
theorem plainE:zCn tE=true:=kCU
theorem parseA (chk:S28→Int):zBv chk tA=.ok (xA,5):=kCU
theorem parseB (chk:S28→Int):zBv chk tB=.ok (xB,7):=kCU
theorem parseC (chk:S28→Int):zBv chk tC=.ok (xC,7):=kCU
theorem parseD (chk:S28→Int):zBv chk tD=.ok (xD,7):=kCU
section
theorem head_sum:∀(d:Nat) (x:S31),zAC x≤d→OkX x→1≤levR x.f0→∃t l,zAm x=t :: l∧(Head t∨t=sgTk 45):=by
 intro d
 induction d with
 | zero=>intro x h;rw[zAr] at h;omega
 | succ d ih =>
  intro x hd hok hlev;by_cases h2:2≤levR x.f0
  ·obtain⟨t,l,h1,h2⟩:=head_open _ x (kA2 _) hok h2;exact⟨t,l,h1,.inl h2⟩
  obtain⟨_,hlook,hl⟩:=hok;have hn:=zEr hlook;rw[zAr] at hd;have harg:∀(h:0<x.f4.length),∃t l,zBp (zBX x.f4) 0 1=t :: l∧(Head t∨t=sgTk 45):=by
   intro h;rw[argTk_eq _ 0 h];by_cases hlt:levR (x.f4[0]).f0<1
   ·rw[zDJ hlt];exact⟨_,_,rfl,.inl (.inr (.inr (.inl rfl)))⟩
   ·rw[zD4 kCT];have:=zB7 (kAA h);exact ih _ kCT (hl _ (kAA h)) kCT
  rw[zD8];obtain⟨op,num,name,size,l⟩:=x;simp only at hn hlev h2 harg ⊢;have app:∀(a b:List Tk),(∃t l,a=t :: l∧(Head t∨t=sgTk 45))→∃t l,a++b=t :: l∧(Head t∨t=sgTk 45):=by
   rintro a b⟨t,l,rfl,h⟩;exact⟨t,l++b,rfl,h⟩
  rcases hn with⟨rfl,_,_,_,_,hk⟩ | ⟨rfl,_,_,_,hk⟩ | ⟨rfl,_,_,_,hk⟩ | ⟨ho,_,_,_,hk⟩ | ⟨rfl,_,_,_,hk⟩ | ⟨rfl,_,_,_,hk⟩ | ⟨ho,_,_,_,hk⟩ | ⟨rfl,_,_,_,hk⟩ | ⟨rfl,_,_,_,hk⟩ | ⟨rfl,_,_,_,hk⟩
  ·exact absurd kCW h2
  ·exact absurd kCW h2
  ·exact⟨_,_,rfl,.inr rfl⟩
  ·rcases ho with rfl | rfl | rfl | rfl | rfl
   ·exact app _ _ (harg kCT)
   ·exact app _ _ (harg kCT)
   ·exact absurd kCW h2
   ·exact absurd kCW h2
   ·exact absurd kCW h2
  ·exact absurd kCW h2
  ·exact absurd kCW h2
  ·rcases ho with rfl | rfl<;>exact absurd hlev kCW
  ·exact absurd hlev kCW
  ·exact absurd hlev kCW
  ·exact absurd kCW h2
section
variable {st:Nat→Tk} {chk:S28→Int} {L N:Nat}
theorem elem_stop (ex:Nat→RI S31) (j:Nat) (x:S31) (n:Nat) (h:skI st n ⟨#[91]⟩=false):zB9 st ex j x n=.ok (x,n):=by
 cases j with
 | zero=>rfl
 | succ j=>unfold zB9;rw[kA9 (by rw[h];decide)]
theorem prod_stop (ex:Nat→RI S31) (j:Nat) (x:S31) (n:Nat) (h1:skI st n ⟨#[42]⟩=false) (h2:skI st n ⟨#[47]⟩=false):zB2 st chk L ex j x n=.ok (x,n):=by
 cases j with
 | zero=>rfl
 | succ j=>unfold zB2;rw[kA9 kDa,kA9 kDp]
theorem sum_stop (ex:Nat→RI S31) (j:Nat) (x:S31) (n:Nat) (h1:skI st n ⟨#[43]⟩=false) (h2:skI st n ⟨#[45]⟩=false):zBi st chk L ex j x n=.ok (x,n):=by
 cases j with
 | zero=>rfl
 | succ j=>unfold zBi;rw[kA9 kDa,kA9 kDp]
theorem up43 {ex:Nat→RI S31} {j n n':Nat} {x:S31} (h:zBE st chk L ex n=zB9 st ex j x n') (hs:NP (st n')):zCR st chk L ex n=.ok (x,n'):=by
 unfold zCR;rw[h,elem_stop ex j x n' (by rw[zB1];exact hs.br)];show zEL st x n'=_;unfold zEL;rw[kA9 (by rw[zB1,hs.pow];decide)]
theorem up32 {ex:Nat→RI S31} {n n':Nat} {x:S31} (h:zCR st chk L ex n=.ok (x,n')):zBe st chk L ex n=zB2 st chk L ex L x n':=by
 unfold zBe;rw[h];rfl
theorem up2 {ex:Nat→RI S31} {j n n':Nat} {x:S31} (h:zBe st chk L ex n=zB2 st chk L ex j x n') (hs:ND (st n')):zBe st chk L ex n=.ok (x,n'):=by
 rw[h,prod_stop ex j x n' (by rw[zB1];exact hs.mul) (by rw[zB1];exact hs.div)]
theorem up21 {ex:Nat→RI S31} {j n n':Nat} {x:S31} (h:zBe st chk L ex n=zB2 st chk L ex j x n') (hs:ND (st n')) (hh:Head (st n)):zDV st chk L ex n=zBi st chk L ex L x n':=by
 unfold zDV;rw[kA9 (by rw[zB1,hh.sk _ kCW];decide),up2 h hs];rfl
theorem up1 {ex:Nat→RI S31} {j n n':Nat} {x:S31} (h:zDV st chk L ex n=zBi st chk L ex j x n') (hs:NS (st n')):zDV st chk L ex n=.ok (x,n'):=by
 rw[h,sum_stop ex j x n' (by rw[zB1];exact hs.add) (by rw[zB1];exact hs.sub)]
theorem up10 {j n n':Nat} {x:S31} {K:Nat} (h:zDV st chk L (zAY st chk L K) n=zBi st chk L (zAY st chk L K) j x n') (hs:NS (st n')) (hh:Head (st n)∨st n=sgTk 45):zAY st chk L (K+1) n=.ok (x,n'):=by
 have hw:∀w:ByteArray,1<w.data.toList.length→skI st n w=false:=fun w hw=>by
  rw[zB1];rcases hh with hh | hh
  ·exact hh.sk w ⟨fun e=>by rw[e] at hw;simp at hw,fun e=>by rw[e] at hw;simp at hw⟩
  ·rw[hh];unfold skT;rw[kAQ];exact .inr (by rw[kAd];exact fun e=>by rw[← e] at hw;simp at hw)
 unfold zAY exprBI;rw[kA9 kDz,kA9 kDz,kA9 kDz,kA9 kDz];exact up1 h hs
theorem par_elem {ex:Nat→RI S31} {n m:Nat} {x:S31} (h0:st n=sgTk 40) (hx:ex (n+1)=.ok (x,m)) (hm:st m=sgTk 41):zBE st chk L ex n=zB9 st ex L x (m+1):=by
 have ha:atomI st chk ex n=.ok (x,m+1):=by
  unfold atomI;rw[kA9 (by rw[h0];decide),kA9 (by rw[h0];decide),kAa (by rw[zB1,h0];rfl),hx];show zE4 st ⟨#[41]⟩ x m=_;unfold zE4;rw[kAa (by rw[zB1,hm];rfl)]
 unfold zBE;rw[ha];rfl
structure Ends (st:Nat→Tk) (N:Nat):Prop where
 out:∀i,N≤i→(st i).1=-1
theorem Ends.lt (h:Ends st N) {n:Nat} (hn:(st n).1≠-1):n<N:=by
 by_cases hl:n<N
 ·exact hl
 ·exact absurd (h.out n kCT) hn
structure Read4 (st:Nat→Tk) (chk:S28→Int) (L N:Nat) (ex:Nat→RI S31) (x:S31) (n:Nat):Prop where
 pe:Sees st n (tkTk x 4)→NA (st (n+(tkTk x 4).length))→∃j,N<n+(tkTk x 4).length+j∧zBE st chk L ex n=zB9 st ex j x (n+(tkTk x 4).length)
 pp:Sees st n (tkTk x 3)→NP (st (n+(tkTk x 3).length))→zCR st chk L ex n=.ok (x,n+(tkTk x 3).length)
 pd:Sees st n (tkTk x 2)→NP (st (n+(tkTk x 2).length))→∃j,N<n+(tkTk x 2).length+j∧zBe st chk L ex n=zB2 st chk L ex j x (n+(tkTk x 2).length)
 ps:Sees st n (tkTk x 1)→ND (st (n+(tkTk x 1).length))→∃j,N<n+(tkTk x 1).length+j∧zDV st chk L ex n=zBi st chk L ex j x (n+(tkTk x 1).length)
def zFf (st:Nat→Tk) (chk:S28→Int) (L N:Nat) (x:S31):Prop :=
 ∀K n,N<n+K→Sees st n (tkTk x 0)→NS (st (n+(tkTk x 0).length))→zAY st chk L K n=.ok (x,n+(tkTk x 0).length)
theorem Read4.ds {ex:Nat→RI S31} {x:S31} {n:Nat} (h:Read4 st chk L N ex x n) (h1:Sees st n (tkTk x 2)) (h2:ND (st (n+(tkTk x 2).length))):zBe st chk L ex n=.ok (x,n+(tkTk x 2).length):=by
 obtain⟨j,_,e⟩:=h.pd h1 h2.toNP;exact up2 e h2
theorem Read4.ss {ex:Nat→RI S31} {x:S31} {n:Nat} (h:Read4 st chk L N ex x n) (h1:Sees st n (tkTk x 1)) (h2:NS (st (n+(tkTk x 1).length))):zDV st chk L ex n=.ok (x,n+(tkTk x 1).length):=by
 obtain⟨j,_,e⟩:=h.ps h1 h2.toND;exact up1 e h2
structure Own (st:Nat→Tk) (chk:S28→Int) (L N:Nat) (x:S31):Prop where
 l4:levR x.f0=4→∀K n,N<n+1+K→Sees st n (zAm x)→NA (st (n+(zAm x).length))→∃j,N<n+(zAm x).length+j∧zBE st chk L (zAY st chk L K) n=zB9 st (zAY st chk L K) j x (n+(zAm x).length)
 l3:levR x.f0=3→∀K n,N<n+1+K→Sees st n (zAm x)→NP (st (n+(zAm x).length))→zCR st chk L (zAY st chk L K) n=.ok (x,n+(zAm x).length)
 l2:levR x.f0=2→∀K n,N<n+1+K→Sees st n (zAm x)→NP (st (n+(zAm x).length))→∃j,N<n+(zAm x).length+j∧zBe st chk L (zAY st chk L K) n=zB2 st chk L (zAY st chk L K) j x (n+(zAm x).length)
 l1:levR x.f0=1→∀K n,N<n+1+K→Sees st n (zAm x)→ND (st (n+(zAm x).length))→∃j,N<n+(zAm x).length+j∧zDV st chk L (zAY st chk L K) n=zBi st chk L (zAY st chk L K) j x (n+(zAm x).length)
 l0:levR x.f0=0→∀K n,N<n+1+K→Sees st n (zAm x)→NS (st (n+(zAm x).length))→zAY st chk L (K+1) n=.ok (x,n+(zAm x).length)
theorem lev_cases (op:Int):levR op=0∨levR op=1∨levR op=2∨levR op=3∨levR op=4:=by
 unfold levR
 repeat' split
 all_goals omega
theorem zFA {n:Nat} {l:List Tk} {t:Tk} {r:List Tk} (h:Sees st n l) (e:l=t :: r):st n=t:=by
 rw[e] at h;exact h.1
theorem Own.all {x:S31} (h:Own st chk L N x) (hok:OkX x) (hL:N<L) (hE:Ends st N):(∀K n,N<n+1+K→Read4 st chk L N (zAY st chk L K) x n)∧zFf st chk L N x:=by
 have hl:=lev_cases x.f0;have c3:3≤levR x.f0→∀K n,N<n+1+K→Sees st n (zAm x)→NP (st (n+(zAm x).length))→zCR st chk L (zAY st chk L K) n=.ok (x,n+(zAm x).length):=by
  intro h3 K n hn hs hp;by_cases h4:levR x.f0=4
  ·obtain⟨j,_,e⟩:=h.l4 h4 K n hn hs hp.toNA;exact up43 e hp
  ·exact h.l3 kCT K n hn hs hp
 have c2:2≤levR x.f0→∀K n,N<n+1+K→Sees st n (zAm x)→NP (st (n+(zAm x).length))→∃j,N<n+(zAm x).length+j∧zBe st chk L (zAY st chk L K) n=zB2 st chk L (zAY st chk L K) j x (n+(zAm x).length):=by
  intro h2 K n hn hs hp;by_cases h3:levR x.f0=2
  ·exact h.l2 h3 K n hn hs hp
  ·exact⟨L,kCT,up32 (c3 kCT K n hn hs hp)⟩
 have c1:1≤levR x.f0→∀K n,N<n+1+K→Sees st n (zAm x)→ND (st (n+(zAm x).length))→∃j,N<n+(zAm x).length+j∧zDV st chk L (zAY st chk L K) n=zBi st chk L (zAY st chk L K) j x (n+(zAm x).length):=by
  intro h1 K n hn hs hp;by_cases h2:levR x.f0=1
  ·exact h.l1 h2 K n hn hs hp
  ·obtain⟨j,_,e⟩:=c2 kCT K n hn hs hp.toNP;obtain⟨t,r,e2,hh⟩:=head_open _ x (kA2 _) hok kCT;exact⟨L,kCT,up21 e hp (by rw[zFA hs e2];exact hh)⟩
 have hX:zFf st chk L N x:=by
  intro K n hn hs hp;rw[zC1] at hs hp ⊢
  cases K with
  | zero =>
   exfalso;have hpos:∃t r,zAm x=t :: r∧t.1≠-1:=by
    by_cases h1:1≤levR x.f0
    ·obtain⟨t,r,e,hh⟩:=head_sum _ x (kA2 _) hok h1;refine⟨t,r,e,?_⟩;rcases hh with (hh | hh | hh | hh) | hh
     ·omega
     ·omega
     ·rw[hh];decide
     ·rw[hh];decide
     ·rw[hh];decide
    ·have h0:levR x.f0=0:=kCT
     rw[zD8];have hop:x.f0=13∨x.f0=12∨x.f0=10∨x.f0=11:=by
      unfold levR at h0
      repeat' split at h0
      all_goals first | omega | skip
     rcases hop with e | e | e | e<;>rw[e]<;>exact⟨_,_,rfl,kCW⟩
   obtain⟨t,r,e,ht⟩:=hpos;have:=hE.lt (n:=n) (by rw[zFA hs e];exact ht);omega
  | succ K =>
   by_cases h1:1≤levR x.f0
   ·obtain⟨j,_,e⟩:=c1 h1 K n kCT hs hp.toND;obtain⟨t,r,e2,hh⟩:=head_sum _ x (kA2 _) hok h1;exact up10 e hp (by rw[zFA hs e2];exact hh)
   ·exact h.l0 kCT K n kCT hs hp
 refine⟨fun K n hn=>?_,hX⟩;have cp:Sees st n (sgTk 40 :: (tkTk x 0++[sgTk 41]))→zBE st chk L (zAY st chk L K) n=zB9 st (zAY st chk L K) L x (n+(sgTk 40 :: (tkTk x 0++[sgTk 41])).length):=by
  rintro⟨h0,hs⟩;obtain⟨hs1,hs2,_⟩:=(zBt _ _ _).1 hs;have hx:=hX K (n+1) kCT hs1 (by rw[hs2];exact ns_sg 41 kCW);have:=par_elem (L:=L) (chk:=chk) h0 hx hs2;rw[this];congr 1;simp only[List.length_cons,kAv,List.length_nil];omega
 have pe:Sees st n (tkTk x 4)→NA (st (n+(tkTk x 4).length))→∃j,N<n+(tkTk x 4).length+j∧zBE st chk L (zAY st chk L K) n=zB9 st (zAY st chk L K) j x (n+(tkTk x 4).length):=by
  intro hs ha;by_cases h4:levR x.f0<4
  ·rw[zDJ h4] at hs⊢;exact⟨L,kCT,cp hs⟩
  ·rw[zD4 kCT] at hs ha ⊢;exact h.l4 kCT K n hn hs ha
 have pp:Sees st n (tkTk x 3)→NP (st (n+(tkTk x 3).length))→zCR st chk L (zAY st chk L K) n=.ok (x,n+(tkTk x 3).length):=by
  intro hs hp;by_cases h3:levR x.f0<3
  ·rw[zDJ h3] at hs hp ⊢;exact up43 (cp hs) hp
  ·rw[zD4 kCT] at hs hp ⊢;exact c3 kCT K n hn hs hp
 have pd:Sees st n (tkTk x 2)→NP (st (n+(tkTk x 2).length))→∃j,N<n+(tkTk x 2).length+j∧zBe st chk L (zAY st chk L K) n=zB2 st chk L (zAY st chk L K) j x (n+(tkTk x 2).length):=by
  intro hs hp;by_cases h2:levR x.f0<2
  ·rw[zDJ h2] at hs hp ⊢;exact⟨L,kCT,up32 (up43 (cp hs) hp)⟩
  ·rw[zD4 kCT] at hs hp ⊢;exact c2 kCT K n hn hs hp
 refine⟨pe,pp,pd,fun hs hp=>?_⟩;by_cases h1:levR x.f0<1
 ·rw[zDJ h1] at hs hp ⊢;exact⟨L,kCT,up21 (up32 (up43 (cp hs) hp.toNP)) hp (by rw[hs.1];exact .inr (.inr (.inl rfl)))⟩
 ·rw[zD4 kCT] at hs hp ⊢;exact c1 kCT K n hn hs hp
end
end
section
theorem ofR_reads:((List.range 100).all fun i=>match Lib.atoiAll (ofR (i:Int)).data.toList with | .ok v=>v==(i:Int) | _=>false)=true:=kCU
theorem ofR_atoi {v:Int} (h0:0≤v) (h1:v≤99):Lib.atoiAll (ofR v).data.toList=.ok v:=by
 have:=kBi.1 ofR_reads v.toNat (kBO.2 kCT);rw[kC6 h0] at this;split at this
 ·rename_i u hu;rw[kAx] at this;rw[hu,this]
 ·cases this
theorem str_is {s t:ByteArray} (h:s.toList=t.data.toList):s=t:=by
 rw[kAR] at h;apply kBX;exact kBV.1 h
section
variable {st:Nat→Tk} {chk:S28→Int} {L N:Nat}
theorem zFM {v lo hi:Int} {n:Nat} (h:st n=(2,ofR v)) (h0:0≤v) (h1:v≤99) (hlo:lo≤v) (hhi:v≤hi):numI st lo hi n=.ok (v,n+1):=by
 unfold numI;rw[h];simp only[ofR_atoi h0 h1];rw[kAa ⟨trivial,hlo,hhi⟩]
theorem size_reads {v:Int} {n:Nat} (hlo:1≤v) (hhi:v≤99) (h:Sees st n (zBs v)):numI st 1 99 n=.ok (v,n+(zBs v).length):=by
 unfold zBs at h⊢;rw[kA9 kCT] at h⊢;exact zFM h.1 kCT kCT hlo hhi
theorem expo_reads {v:Int} {n:Nat} (x:S31) (hlo:-9≤v) (hhi:v≤9) (h:Sees st n (zBs v)):expoI st x n=.ok (⟨7,z28,⟨#[]⟩,v,[x]⟩,n+(zBs v).length):=by
 unfold zBs at h⊢;unfold expoI;by_cases h0:v<0
 ·rw[kAa h0] at h⊢;obtain⟨h1,h2,_⟩:=h;rw[kAa (by rw[zB1,h1];rfl),zFM h2 kCT kCT kCT kCT];show Except.ok _=_;rw[show - -v=v by omega];rfl
 ·rw[kA9 h0] at h⊢;obtain⟨h1,_⟩:=h;rw[kA9 (by rw[zB1,h1,zFj _ kCV kCV];decide),zFM h1 kCT kCT kCT kCT];rfl
theorem lit_reads {num:S28} {name:ByteArray} {n:Nat} (hc:chk num=0) (h:Sees st n (litTk num name)) (ha:NA (st (n+(litTk num name).length))) :
  litI st chk num.f0 (n+1)=.ok (⟨0,num,name,0,[]⟩,n+(litTk num name).length):=by
 obtain⟨a,b⟩:=num;unfold litTk at h ha ⊢;simp only at h ha ⊢;obtain⟨h1,h2⟩:=h;have hu:∀(r:S28) (m:Nat),Sees st m (if name.toList == [] then [] else [(3,name)])→NA (st (m+(if name.toList == [] then ([]:List Tk) else [(3,name)]).length)) →
   unitI st r m=.ok (⟨0,r,name,0,[]⟩,m+(if name.toList == [] then ([]:List Tk) else [(3,name)]).length):=by
  intro r m hs hn;unfold unitI;by_cases hn0:(name.toList == [])=true
  ·rw[kAa hn0] at hs hn ⊢;have:name=⟨#[]⟩:=str_is (by simpa using hn0);rw[kA9 (by exact hn.unit),this];rfl
  ·rw[kA9 hn0] at hs hn ⊢;rw[kAa (by rw[hs.1]),hs.1];rfl
 unfold litI;by_cases hb:(b.toList == [49])=true
 ·rw[kAa hb] at h2 ha ⊢;simp only[List.nil_append] at h2 ha ⊢;have e:b=⟨#[49]⟩:=str_is (by simpa using hb);have hbar:skI st (n+1) ⟨#[124]⟩=false:=by
   rw[zB1];by_cases hn0:(name.toList == [])=true
   ·rw[kAa hn0] at ha;exact ha.bar
   ·rw[kA9 hn0] at h2;rw[h2.1];exact zFj _ kCV kCV
  have el:n+((2,a) :: (if name.toList == [] then ([]:List Tk) else [(3,name)])).length=n+1+(if name.toList == [] then ([]:List Tk) else [(3,name)]).length:=by simp only[List.length_cons];omega
  rw[kA9 (by rw[hbar];decide),e,hu _ _ h2 (by rw[← el];exact ha),el]
 ·rw[kA9 hb] at h2 ha ⊢;obtain⟨h3,h4,h5⟩:=h2;rw[kAa (by rw[zB1,h3];rfl)];unfold denI;have el:n+((2,a) :: ([sgTk 124,(2,b)]++(if name.toList == [] then ([]:List Tk) else [(3,name)]))).length=n+1+1+1+(if name.toList == [] then ([]:List Tk) else [(3,name)]).length:=by simp only[List.length_cons,kAv,List.length_nil];omega
  rw[kAa (by rw[h4];exact⟨rfl,by simpa using hb,hc⟩),h4,hu _ _ h5 (by rw[← el];exact ha),el]
theorem list_reads {ex:Nat→RI S31} (cl:UInt8) (hcl:cl=41∨cl=93):∀(l:List S31) (k:Nat) (acc:List S31) (n:Nat),l≠[]→acc.length+l.length≤8→8≤k+acc.length →
  (∀a∈l,∀m,n≤m→Sees st m (tkTk a 0)→NS (st (m+(tkTk a 0).length))→ex m=.ok (a,m+(tkTk a 0).length))→Sees st n (zBH (l.map fun y=>tkTk y 0)++[sgTk cl]) →
  listI st ex ⟨#[cl]⟩ k acc n=.ok (acc++l,n+(zBH (l.map fun y=>tkTk y 0)).length+1):=by
 intro l
 induction l with
 | nil=>intro k acc n h;exact absurd rfl h
 | cons x l ih =>
  intro k acc n _ h8 hk hex hs;simp only[List.length_cons] at h8;obtain⟨k,rfl⟩:∃i,k=i+1:=⟨k-1,kCT⟩;have hcl44:(cl==44)=false:=by rcases hcl with rfl | rfl<;>rfl
  have hns:NS (sgTk cl):=by rcases hcl with rfl | rfl<;>exact ns_sg _ kCW
  unfold listI
  cases l with
  | nil =>
   simp only[kAo,kAs,zBH] at hs⊢;obtain⟨hs1,hs2,_⟩:=(zBt _ _ _).1 hs;rw[hex x (kAJ ..) n (kA2 _) hs1 (by rw[hs2];exact hns)];show (if _ then _ else _)=_;rw[kA9 (by rw[zB1,hs2,skT_sg,hcl44];simp)];unfold zE4;rw[kAa (by rw[zB1,hs2,skT_sg];simp)]
  | cons y r =>
   simp only[kAo,zBH,kAV,List.cons_append] at hs⊢;obtain⟨hs1,hs2,hs3⟩:=(zBt _ _ _).1 hs;rw[hex x (kAJ ..) n (kA2 _) hs1 (by rw[hs2];exact ns_sg 44 kCW)];show (if _ then _ else _)=_;simp only[List.length_cons] at h8;rw[kAa ⟨kCX,by rw[zB1,hs2];rfl⟩];have:=ih k (acc++[x]) (n+(tkTk x 0).length+1) kCV kCX kCX (fun a ha m hm=>hex a (kAK _ ha) m kCT) hs3;rw[this];simp[kBM,Nat.add_comm,kCD]
theorem Own.of4 {x:S31} (h:levR x.f0=4) (k:∀K n,N<n+1+K→Sees st n (zAm x)→NA (st (n+(zAm x).length))→∃j,N<n+(zAm x).length+j∧zBE st chk L (zAY st chk L K) n=zB9 st (zAY st chk L K) j x (n+(zAm x).length)):Own st chk L N x :=
 ⟨fun _=>k,fun e=>by omega,fun e=>by omega,fun e=>by omega,fun e=>by omega⟩
theorem Own.of3 {x:S31} (h:levR x.f0=3) (k:∀K n,N<n+1+K→Sees st n (zAm x)→NP (st (n+(zAm x).length))→zCR st chk L (zAY st chk L K) n=.ok (x,n+(zAm x).length)):Own st chk L N x :=
 ⟨fun e=>by omega,fun _=>k,fun e=>by omega,fun e=>by omega,fun e=>by omega⟩
theorem Own.of2 {x:S31} (h:levR x.f0=2) (k:∀K n,N<n+1+K→Sees st n (zAm x)→NP (st (n+(zAm x).length))→∃j,N<n+(zAm x).length+j∧zBe st chk L (zAY st chk L K) n=zB2 st chk L (zAY st chk L K) j x (n+(zAm x).length)):Own st chk L N x :=
 ⟨fun e=>by omega,fun e=>by omega,fun _=>k,fun e=>by omega,fun e=>by omega⟩
theorem Own.of1 {x:S31} (h:levR x.f0=1) (k:∀K n,N<n+1+K→Sees st n (zAm x)→ND (st (n+(zAm x).length))→∃j,N<n+(zAm x).length+j∧zDV st chk L (zAY st chk L K) n=zBi st chk L (zAY st chk L K) j x (n+(zAm x).length)):Own st chk L N x :=
 ⟨fun e=>by omega,fun e=>by omega,fun e=>by omega,fun _=>k,fun e=>by omega⟩
theorem Own.of0 {x:S31} (h:levR x.f0=0) (k:∀K n,N<n+1+K→Sees st n (zAm x)→NS (st (n+(zAm x).length))→zAY st chk L (K+1) n=.ok (x,n+(zAm x).length)):Own st chk L N x :=
 ⟨fun e=>by omega,fun e=>by omega,fun e=>by omega,fun e=>by omega,fun _=>k⟩
theorem zEz {ex:Nat→RI S31} {n m:Nat} {x:S31} (h:atomI st chk ex n=.ok (x,m)):zBE st chk L ex n=zB9 st ex L x m:=by
 unfold zBE;rw[h];rfl
end
end
section
section
variable {st:Nat→Tk} {chk:S28→Int} {L N:Nat}
theorem own_lit (num:S28) (name:ByteArray) (hc:chk num=0) (hL:N<L):Own st chk L N ⟨0,num,name,0,[]⟩:=by
 refine .of4 kCY fun K n _ hs ha=>?_
 rw[show zAm ⟨0,num,name,0,[]⟩=litTk num name from rfl] at hs ha ⊢;refine⟨L,kCT,zEz ?_⟩;have h1:st n=(2,num.f0):=hs.1;unfold atomI;rw[kAa (by rw[h1]),h1];exact lit_reads hc hs ha
theorem own_ref (name:ByteArray) (hL:N<L):Own st chk L N ⟨1,z28,name,0,[]⟩:=by
 refine .of4 kCY fun K n _ hs ha=>?_
 rw[show zAm ⟨1,z28,name,0,[]⟩=[(0,name)] from rfl] at hs ha ⊢;refine⟨L,kCT,zEz ?_⟩;have h1:st n=(0,name):=hs.1;unfold atomI nameI;have hp:skT (st (n+1)) ⟨#[40]⟩=false:=ha.par;rw[kA9 (by rw[h1];simp),kAa (by rw[h1]),kA9 (by rw[zB1,hp];decide),h1];rfl
theorem own_neg (a:S31) (h:∀K n,N<n+1+K→Read4 st chk L N (zAY st chk L K) a n) (hL:N<L):Own st chk L N ⟨2,z28,⟨#[]⟩,0,[a]⟩:=by
 refine .of1 kCY fun K n hn hs ha=>?_
 rw[show zAm ⟨2,z28,⟨#[]⟩,0,[a]⟩=sgTk 45 :: tkTk a 2 from rfl] at hs ha ⊢;obtain⟨h1,h2⟩:=hs;rw[show n+(sgTk 45 :: tkTk a 2).length=n+1+(tkTk a 2).length by simp;omega] at ha⊢;refine⟨L,kCT,?_⟩;unfold zDV;rw[kAa (by rw[zB1,h1];rfl),(h K (n+1) kCT).ds h2 ha];rfl
theorem own_sum (op:Int) (c:UInt8) (hop:(op=3∧c=43)∨(op=4∧c=45)) (a b:S31) (ha:∀K n,N<n+1+K→Read4 st chk L N (zAY st chk L K) a n) (hb:∀K n,N<n+1+K→Read4 st chk L N (zAY st chk L K) b n) (hE:Ends st N):Own st chk L N ⟨op,z28,⟨#[]⟩,0,[a,b]⟩:=by
 have e:zAm ⟨op,z28,⟨#[]⟩,0,[a,b]⟩=tkTk a 1++sgTk c :: tkTk b 2:=kDI
 refine .of1 kDI fun K n hn hs hd=>?_
 rw[e] at hs hd ⊢;obtain⟨s1,s2,s3⟩:=(zBt _ _ _).1 hs;rw[show n+(tkTk a 1++sgTk c :: tkTk b 2).length=n+(tkTk a 1).length+1+(tkTk b 2).length by simp;omega] at hd⊢;obtain⟨j,hj,h1⟩:=(ha K n hn).ps s1 (by rw[s2];rcases hop with⟨_,rfl⟩ | ⟨_,rfl⟩<;>exact nd_sg _ kCW);have hlt:=hE.lt (n:=n+(tkTk a 1).length) (by rw[s2];simp);obtain⟨j,rfl⟩:∃i,j=i+1:=⟨j-1,kCT⟩;have h2:=(hb K (n+(tkTk a 1).length+1) kCT).ds s3 hd;refine⟨j,kCT,?_⟩;rw[h1]
 conv=>lhs;unfold zBi
 rcases hop with⟨rfl,rfl⟩ | ⟨rfl,rfl⟩
 ·rw[kAa kDe,h2];rfl
 ·rw[kA9 (by rw[zB1,s2];decide),kAa kDe,h2];rfl
theorem own_prod (op:Int) (c:UInt8) (hop:(op=5∧c=42)∨(op=6∧c=47)) (a b:S31) (ha:∀K n,N<n+1+K→Read4 st chk L N (zAY st chk L K) a n) (hb:∀K n,N<n+1+K→Read4 st chk L N (zAY st chk L K) b n) (hE:Ends st N):Own st chk L N ⟨op,z28,⟨#[]⟩,0,[a,b]⟩:=by
 have e:zAm ⟨op,z28,⟨#[]⟩,0,[a,b]⟩=tkTk a 2++sgTk c :: tkTk b 3:=kDI
 refine .of2 kDI fun K n hn hs hd=>?_
 rw[e] at hs hd ⊢;obtain⟨s1,s2,s3⟩:=(zBt _ _ _).1 hs;rw[show n+(tkTk a 2++sgTk c :: tkTk b 3).length=n+(tkTk a 2).length+1+(tkTk b 3).length by simp;omega] at hd⊢;obtain⟨j,hj,h1⟩:=(ha K n hn).pd s1 (by rw[s2];rcases hop with⟨_,rfl⟩ | ⟨_,rfl⟩<;>exact np_sg _ kCW);have hlt:=hE.lt (n:=n+(tkTk a 2).length) (by rw[s2];simp);obtain⟨j,rfl⟩:∃i,j=i+1:=⟨j-1,kCT⟩;have h2:=(hb K (n+(tkTk a 2).length+1) kCT).pp s3 hd;refine⟨j,kCT,?_⟩;rw[h1]
 conv=>lhs;unfold zB2
 rcases hop with⟨rfl,rfl⟩ | ⟨rfl,rfl⟩
 ·rw[kAa kDe,h2];rfl
 ·rw[kA9 (by rw[zB1,s2];decide),kAa kDe,h2];rfl
theorem own_pow (v:Int) (hlo:-9≤v) (hhi:v≤9) (a:S31) (ha:∀K n,N<n+1+K→Read4 st chk L N (zAY st chk L K) a n):Own st chk L N ⟨7,z28,⟨#[]⟩,v,[a]⟩:=by
 refine .of3 kCY fun K n hn hs hd=>?_
 rw[show zAm ⟨7,z28,⟨#[]⟩,v,[a]⟩=tkTk a 4++sgTk 94 :: zBs v from rfl] at hs hd ⊢;obtain⟨s1,s2,s3⟩:=(zBt _ _ _).1 hs;rw[show n+(tkTk a 4++sgTk 94 :: zBs v).length=n+(tkTk a 4).length+1+(zBs v).length by simp;omega] at hd⊢;obtain⟨j,hj,h1⟩:=(ha K n hn).pe s1 (by rw[s2];exact na_sg _ kCW);unfold zCR;rw[h1,elem_stop _ j a _ kDe];show zEL st a _=_;unfold zEL;rw[kAa kDe];exact expo_reads a hlo hhi s3
theorem own_at (a b:S31) (ha:∀K n,N<n+1+K→Read4 st chk L N (zAY st chk L K) a n) (hb:zFf st chk L N b) (hE:Ends st N):Own st chk L N ⟨9,z28,⟨#[]⟩,0,[a,b]⟩:=by
 refine .of4 kCY fun K n hn hs hd=>?_
 rw[show zAm ⟨9,z28,⟨#[]⟩,0,[a,b]⟩=tkTk a 4++sgTk 91 :: (tkTk b 0++[sgTk 93]) from rfl] at hs hd ⊢;obtain⟨s1,s2,s3⟩:=(zBt _ _ _).1 hs;obtain⟨s4,s5,_⟩:=(zBt _ _ _).1 s3;rw[show n+(tkTk a 4++sgTk 91 :: (tkTk b 0++[sgTk 93])).length=n+(tkTk a 4).length+1+(tkTk b 0).length+1 by simp;omega] at hd⊢;obtain⟨j,hj,h1⟩:=(ha K n hn).pe s1 (by rw[s2];exact na_sg _ kCW);have hlt:=hE.lt (n:=n+(tkTk a 4).length) (by rw[s2];simp);obtain⟨j,rfl⟩:∃i,j=i+1:=⟨j-1,kCT⟩;have h2:=hb K (n+(tkTk a 4).length+1) kCT s4 (by rw[s5];exact ns_sg _ kCW);refine⟨j,kCT,?_⟩;rw[h1]
 conv=>lhs;unfold zB9
 rw[kAa kDe,h2];show zBL (zE4 st ⟨#[93]⟩ b _) _=_;unfold zE4;rw[kAa (by rw[zB1,s5];rfl)];rfl
theorem map_tk (l:List S31):((zBX l).map fun p=>zDj p.1 0 p.2)=l.map fun y=>tkTk y 0:=zDU l
theorem own_list (l:List S31) (h1:l≠[]) (h8:l.length≤8) (hl:∀a∈l,zFf st chk L N a) (hL:N<L):Own st chk L N ⟨8,z28,⟨#[]⟩,0,l⟩:=by
 refine .of4 kCY fun K n hn hs hd=>?_
 rw[show zAm ⟨8,z28,⟨#[]⟩,0,l⟩=sgTk 91 :: (zBH ((zBX l).map fun p=>zDj p.1 0 p.2)++[sgTk 93]) from rfl,map_tk] at hs hd ⊢;obtain⟨s1,s2⟩:=hs;have hr:=list_reads 93 (.inr rfl) l 8 [] (n+1) h1 (by simpa using h8) kCV (fun a ha m hm h3 h4=>hl a ha K m kCT h3 h4) s2;refine⟨L,kCT,zEz ?_⟩;unfold atomI;rw[kA9 (by rw[s1];decide),kA9 (by rw[s1];decide),kA9 kDh,kAa kDr,hr];show Except.ok _=_;simp[kBM,Nat.add_comm,kCD]
theorem own_call (name:ByteArray) (l:List S31) (h8:l.length≤8) (hl:∀a∈l,zFf st chk L N a) (hL:N<L) (hhd:∀a∈l,∃t r,tkTk a 0=t :: r∧skT t ⟨#[41]⟩=false):Own st chk L N ⟨14,z28,name,0,l⟩:=by
 refine .of4 kCY fun K n hn hs hd=>?_
 rw[show zAm ⟨14,z28,name,0,l⟩=(0,name) :: sgTk 40 :: (zBH ((zBX l).map fun p=>zDj p.1 0 p.2)++[sgTk 41]) from rfl,map_tk] at hs hd ⊢;obtain⟨s1,s2,s3⟩:=hs;refine⟨L,kCT,zEz ?_⟩;unfold atomI nameI argsI;rw[kA9 (by rw[s1];simp),kAa (by rw[s1]),kAa kDe];by_cases h0:l=[]
 ·subst h0;have s4:st (n+1+1)=sgTk 41:=s3.1;rw[kAa (by rw[zB1,s4];rfl),s1];rfl
 ·have hr:=list_reads 41 (.inl rfl) l 8 [] (n+1+1) h0 (by simpa using h8) kCV (fun a ha m hm h3 h4=>hl a ha K m kCT h3 h4) s3;have h41:skI st (n+1+1) ⟨#[41]⟩=false:=by
   obtain⟨x,r,rfl⟩:=List.exists_cons_of_ne_nil h0;obtain⟨t,u,e,ht⟩:=hhd x (kAJ ..);have hst:st (n+1+1)=t:=by
    cases r with
    | nil=>simp only[kAo,kAs,zBH] at s3;rw[e] at s3;exact s3.1
    | cons y r=>simp only[kAo,zBH] at s3;rw[e] at s3;exact s3.1
   rw[zB1,hst];exact ht
  rw[kA9 (by rw[h41];decide),hr,s1];show Except.ok _=_;simp[kBM,Nat.add_comm,kCD];omega
theorem own_loop (op:Int) (w:ByteArray) (hop:(op=10∧w=⟨#[116,97,98]⟩)∨(op=11∧w=⟨#[115,117,109]⟩)) (name:ByteArray) (v:Int) (hlo:1≤v) (hhi:v≤99) (a:S31) (ha:zFf st chk L N a):Own st chk L N ⟨op,z28,name,v,[a]⟩:=by
 have e:zAm ⟨op,z28,name,v,[a]⟩=(1,w) :: (0,name) :: sgTk 60 :: (zBs v++sgTk 46 :: tkTk a 0):=kDI
 refine .of0 kDI fun K n hn hs hd=>?_
 rw[e] at hs hd ⊢;obtain⟨s1,s2,s3,s4⟩:=hs;obtain⟨s5,s6,s7⟩:=(zBt _ _ _).1 s4;have hx:∀op,loopI st (zAY st chk L K) op (n+1)=.ok (⟨op,z28,name,v,[a]⟩,n+((1,w) :: (0,name) :: sgTk 60 :: (zBs v++sgTk 46 :: tkTk a 0)).length):=by
  intro op;have hd':NS (st (n+1+1+1+(zBs v).length+1+(tkTk a 0).length)):=by
   rw[show n+1+1+1+(zBs v).length+1+(tkTk a 0).length=n+((1,w) :: (0,name) :: sgTk 60 :: (zBs v++sgTk 46 :: tkTk a 0)).length by simp;omega];exact hd
  have h2:=ha K (n+1+1+1+(zBs v).length+1) kCT s7 hd';unfold loopI loopI3 loopI4;rw[kAa (by rw[s2]),kAa (by rw[zB1,s3];rfl),size_reads hlo hhi s5];show zBL (zFc st _ _ _) _=_;unfold zFc;rw[kAa (by rw[zB1,s6];rfl),h2,s2];show Except.ok _=_;simp[kBM,Nat.add_comm,kCD];omega
 unfold zAY exprBI;rcases hop with⟨rfl,rfl⟩ | ⟨rfl,rfl⟩
 ·rw[kA9 kDh,kA9 kDh,kAa kDr];exact hx 10
 ·rw[kA9 kDh,kA9 kDh,kA9 kDh,kAa kDr];exact hx 11
theorem own_let (name:ByteArray) (a b:S31) (ha:zFf st chk L N a) (hb:zFf st chk L N b):Own st chk L N ⟨13,z28,name,0,[a,b]⟩:=by
 refine .of0 kCY fun K n hn hs hd=>?_
 rw[show zAm ⟨13,z28,name,0,[a,b]⟩=(1,⟨#[108,101,116]⟩) :: (0,name) :: sgTk 61 :: (tkTk a 0++(1,⟨#[105,110]⟩) :: tkTk b 0) from rfl] at hs hd ⊢;obtain⟨s1,s2,s3,s4⟩:=hs;obtain⟨s5,s6,s7⟩:=(zBt _ _ _).1 s4;rw[show n+((1,⟨#[108,101,116]⟩) :: (0,name) :: sgTk 61 :: (tkTk a 0++(1,⟨#[105,110]⟩) :: tkTk b 0):List Tk).length=n+1+1+1+(tkTk a 0).length+1+(tkTk b 0).length by simp;omega] at hd⊢;have h1:=ha K (n+1+1+1) kCT s5 (by rw[s6];exact ns_word _ kCW);have h2:=hb K (n+1+1+1+(tkTk a 0).length+1) kCT s7 hd;unfold zAY exprBI;rw[kAa kDr];unfold lettI lettJ zFc;rw[kAa (by rw[s2]),kAa (by rw[zB1,s3];rfl),h1];show zBL (if _ then _ else _) _=_;rw[kAa (by rw[zB1,s6];rfl),h2,s2];rfl
theorem own_if (a b c d:S31) (ha:∀K n,N<n+1+K→Read4 st chk L N (zAY st chk L K) a n) (hb:∀K n,N<n+1+K→Read4 st chk L N (zAY st chk L K) b n) (hc:zFf st chk L N c) (hd:zFf st chk L N d):Own st chk L N ⟨12,z28,⟨#[]⟩,0,[a,b,c,d]⟩:=by
 refine .of0 kCY fun K n hn hs hns=>?_
 rw[show zAm ⟨12,z28,⟨#[]⟩,0,[a,b,c,d]⟩=(1,⟨#[105,102]⟩) :: (tkTk a 1++sgTk 60 :: (tkTk b 1++(1,⟨#[116,104,101,110]⟩) :: (tkTk c 0++(1,⟨#[101,108,115,101]⟩) :: tkTk d 0))) from rfl] at hs hns ⊢;obtain⟨s1,s2⟩:=hs;obtain⟨s3,s4,s5⟩:=(zBt _ _ _).1 s2;obtain⟨s6,s7,s8⟩:=(zBt _ _ _).1 s5;obtain⟨s9,s10,s11⟩:=(zBt _ _ _).1 s8;rw[show n+((1,⟨#[105,102]⟩) :: (tkTk a 1++sgTk 60 :: (tkTk b 1++(1,⟨#[116,104,101,110]⟩) :: (tkTk c 0++(1,⟨#[101,108,115,101]⟩) :: tkTk d 0))):List Tk).length=n+1+(tkTk a 1).length+1+(tkTk b 1).length+1+(tkTk c 0).length+1+(tkTk d 0).length by simp;omega] at hns⊢;have h1:=(ha K (n+1) kCT).ss s3 (by rw[s4];exact ns_sg _ kCW);have h2:=(hb K (n+1+(tkTk a 1).length+1) kCT).ss s6 (by rw[s7];exact ns_word _ kCW);have h3:=hc K (n+1+(tkTk a 1).length+1+(tkTk b 1).length+1) kCT s9 (by rw[s10];exact ns_word _ kCW);have h4:=hd K (n+1+(tkTk a 1).length+1+(tkTk b 1).length+1+(tkTk c 0).length+1) kCT s11 hns;unfold zAY exprBI;rw[kA9 kDh,kAa kDr];unfold ifI zFc;rw[h1];show zBL (if _ then _ else _) _=_;rw[kAa (by rw[zB1,s4];rfl),h2];show zBL (if _ then _ else _) _=_;rw[kAa (by rw[zB1,s7];rfl),h3];show zBL (if _ then _ else _) _=_;rw[kAa (by rw[zB1,s10];rfl),h4];rfl
end
theorem reads_all {st:Nat→Tk} {L N:Nat} (hE:Ends st N) (hL:N<L):∀(d:Nat) (x:S31),zAC x≤d→OkX x →
  (∀K n,N<n+1+K→Read4 st chkR L N (zAY st chkR L K) x n)∧zFf st chkR L N x:=by
 intro d
 induction d with
 | zero=>intro x h;rw[zAr] at h;omega
 | succ d ih =>
  intro x hd hok;refine Own.all ?_ hok hL hE;obtain⟨_,hlook,hl⟩:=hok;have hn:=zEr hlook;rw[zAr] at hd;have ha:∀a∈x.f4,(∀K n,N<n+1+K→Read4 st chkR L N (zAY st chkR L K) a n)∧zFf st chkR L N a:=fun a ha=>ih a kDF (hl a ha)
  obtain⟨op,num,name,size,l⟩:=x;simp only at hn ha hl;have l1:l.length=1→∃a,l=[a]:=fun h=>List.length_eq_one_iff.1 h
  have l2:l.length=2→∃a b,l=[a,b]:=fun h=>by
   match l,h with
   | [a,b],_=>exact⟨a,b,rfl⟩
  have l4:l.length=4→∃a b c d,l=[a,b,c,d]:=fun h=>by
   match l,h with
   | [a,b,c,d],_=>exact⟨a,b,c,d,rfl⟩
  rcases hn with⟨rfl,h1,h2,h3,rfl,hk⟩ | ⟨rfl,rfl,hn,rfl,hk⟩ | ⟨rfl,rfl,rfl,rfl,hk⟩ | ⟨ho,rfl,rfl,rfl,hk⟩ | ⟨rfl,rfl,rfl,⟨hs0,hs1⟩,hk⟩ | ⟨rfl,rfl,rfl,rfl,hk0,hk1⟩ | ⟨ho,rfl,hn,⟨hs0,hs1⟩,hk⟩ | ⟨rfl,rfl,rfl,rfl,hk⟩ | ⟨rfl,rfl,hn,rfl,hk⟩ | ⟨rfl,rfl,hn,rfl,hk⟩
  ·obtain rfl:=List.length_eq_zero_iff.1 hk;exact own_lit num name h1 hL
  ·obtain rfl:=List.length_eq_zero_iff.1 hk;exact own_ref name hL
  ·obtain⟨a,rfl⟩:=l1 hk;exact own_neg a (ha a kCV).1 hL
  ·obtain⟨a,b,rfl⟩:=l2 hk;have h1:=ha a kCV;have h2:=ha b kCV;rcases ho with rfl | rfl | rfl | rfl | rfl
   ·exact own_sum 3 43 (.inl ⟨rfl,rfl⟩) a b h1.1 h2.1 hE
   ·exact own_sum 4 45 (.inr ⟨rfl,rfl⟩) a b h1.1 h2.1 hE
   ·exact own_prod 5 42 (.inl ⟨rfl,rfl⟩) a b h1.1 h2.1 hE
   ·exact own_prod 6 47 (.inr ⟨rfl,rfl⟩) a b h1.1 h2.1 hE
   ·exact own_at a b h1.1 h2.2 hE
  ·obtain⟨a,rfl⟩:=l1 hk;exact own_pow size hs0 hs1 a (ha a kCV).1
  ·exact own_list l (fun e=>by rw[e] at hk0;simp at hk0) hk1 (fun a h=>(ha a h).2) hL
  ·obtain⟨a,rfl⟩:=l1 hk;rcases ho with rfl | rfl
   ·exact own_loop 10 _ (.inl ⟨rfl,rfl⟩) name size hs0 hs1 a (ha a kCV).2
   ·exact own_loop 11 _ (.inr ⟨rfl,rfl⟩) name size hs0 hs1 a (ha a kCV).2
  ·obtain⟨a,b,c,d,rfl⟩:=l4 hk;exact own_if a b c d (ha a kCV).1 (ha b kCV).1 (ha c kCV).2 (ha d kCV).2
  ·obtain⟨a,b,rfl⟩:=l2 hk;exact own_let name a b (ha a kCV).2 (ha b kCV).2
  ·refine own_call name l hk (fun a h=>(ha a h).2) hL (fun a h=>?_);rw[zC1];have ho:=hl a h;by_cases h1:1≤levR a.f0
   ·obtain⟨t,r,e,hh⟩:=head_sum _ a (kA2 _) ho h1;refine⟨t,r,e,?_⟩;rcases hh with hh | rfl
    ·exact hh.sk _ kCW
    ·rfl
   ·have h0:levR a.f0=0:=by have:=lev_pos a.f0;omega
    rw[zD8];have hop:a.f0=13∨a.f0=12∨a.f0=10∨a.f0=11:=by
     unfold levR at h0
     repeat' split at h0
     all_goals first | omega | skip
    rcases hop with e | e | e | e<;>rw[e]<;>exact⟨_,_,rfl,rfl⟩
end
end Go.Proofs.YtjaobihcdkjmbaaGreatDoor
end
