/- What can be read as an expression is printed as a text that reads as the same, and is printed as itself: for every argument; a part of its proof. -/
import Derived.Test.YtjaobihcdkjmbaaGreatDoorDa
import Derived.Test.YtjaobihcdkjmbaaGreatDoorDb
import Derived.Test.YtjaobihcdkjmbaaGreatDoorD0
import Derived.Test.YtjaobihcdkjmbaaGreatDoorD11
import Derived.Test.YtjaobihcdkjmbaaGreatDoorD13
import Derived.Test.YtjaobihcdkjmbaaGreatDoorD15
set_option linter.unusedVariables false
set_option linter.unusedSimpArgs false
namespace Go.Proofs.YtjaobihcdkjmbaaGreatDoor.PReadTokens
end Go.Proofs.YtjaobihcdkjmbaaGreatDoor.PReadTokens
namespace Go.Proofs.YtjaobihcdkjmbaaGreatDoorW.PrintWords
end Go.Proofs.YtjaobihcdkjmbaaGreatDoorW.PrintWords
set_option maxRecDepth 100000
set_option maxHeartbeats 4000000
section
namespace Go.Proofs.YtjaobihcdkjmbaaGreatDoor
open Go.RowKit Go.Proofs.YtjaobihcdkjmbaaGreatDoorW.PrintWords Go.Proofs.YtjaobihcdkjmbaaGreatDoor.PReadTokens
theorem cmp_sign (a b:Int) (w:World):Calls Tryz.prog 233 #[.int .i64 a,.int .i64 b] w fun e w'=>e=.returned (.int .i64 (cmpI a b))∧Below w.heap.size w w':=by
 rcases kBb a b with h | h | h
 ·rw[zCg h];have h1:decide (a<b)=true:=kA8 h;go_enter Tryz.func233,Tryz.ntmps233;go_wp2;go_ret;exact⟨rfl,kA3 _ _⟩
 ·subst h;rw[zCq];have h1:decide (a<a)=false:=kAc kD4;go_enter Tryz.func233,Tryz.ntmps233;go_wp2;go_ret;exact⟨rfl,kA3 _ _⟩
 ·rw[zCv h];have h1:decide (a<b)=false:=kAc kD4;have h2:decide (b<a)=true:=kA8 h;go_enter Tryz.func233,Tryz.ntmps233;go_wp2;go_ret;exact⟨rfl,kA3 _ _⟩
theorem sign_cmp {a b:Int} (h:Int.sign a≠Int.sign b):cmpI (Int.sign a) (Int.sign b)=cmpI a b:=by
 rcases kBb a 0 with ha | ha | ha<;>rcases kBb b 0 with hb | hb | hb
 ·rw[kAy ha,kAy hb] at h;exact absurd rfl h
 ·subst hb;rw[kAy ha,zCg ha];rfl
 ·rw[kAy ha,kAu hb,zCg (show a<b by omega)];rfl
 ·subst ha;rw[kAy hb,zCv hb];rfl
 ·subst ha hb;exact absurd rfl h
 ·subst ha;rw[kAu hb,zCg hb];rfl
 ·rw[kAu ha,kAy hb,zCv (show b<a by omega)];rfl
 ·subst hb;rw[kAu ha,zCv ha];rfl
 ·rw[kAu ha,kAu hb] at h;exact absurd rfl h
theorem cmpI_three (a b:Int):cmpI a b=0∨cmpI a b=1∨cmpI a b=-1:=by
 unfold cmpI;split
 ·exact .inr (.inr rfl)
 ·split
  ·exact .inr (.inl rfl)
  ·exact .inl rfl
theorem size_cmp {a b:Int} (h:Int.sign a=Int.sign b):Int.sign a*cmpI (a.natAbs:Int) (b.natAbs:Int)=cmpI a b:=by
 rcases kBb a 0 with ha | ha | ha<;>rcases kBb b 0 with hb | hb | hb
 ·rw[kAy ha];rcases kBb a b with hc | hc | hc
  ·rw[zCg hc,zCv kD4];rfl
  ·subst hc;rw[zCq,zCq];rfl
  ·rw[zCv hc,zCg kD4];rfl
 ·subst hb;rw[kAy ha] at h;cases h
 ·rw[kAy ha,kAu hb] at h;cases h
 ·subst ha;rw[kAy hb] at h;cases h
 ·subst ha hb;rfl
 ·subst ha;rw[kAu hb] at h;cases h
 ·rw[kAu ha,kAy hb] at h;cases h
 ·subst hb;rw[kAu ha] at h;cases h
 ·rw[kAu ha,kCj];rcases kBb a b with hc | hc | hc
  ·rw[zCg hc,zCg kD4]
  ·subst hc;rw[zCq,zCq]
  ·rw[zCv hc,zCv kD4]
theorem order_LN (a b:Int) (va vb:Value) (w:World) (ha:LN w a va) (hb:LN w b vb) :
  Calls Tryz.prog 191 #[va,vb] w fun e w'=>e=.returned (.int .i64 (cmpI a b))∧Below w.heap.size w w':=by
 obtain⟨la,A,ca,rfl,ha1,ha2,ha3,ha4,ha5,ha6⟩:=ha.out;obtain⟨lb,B,cb,rfl,hb1,hb2,hb3,hb4,hb5,hb6⟩:=hb.out;clear ha hb;have hsc:=@sign_cmp a b;have hzc:=@size_cmp a b;have hs3:=zCJ a;obtain⟨sa,hsa⟩:∃s,s=Int.sign a:=⟨_,rfl⟩;obtain⟨sb,hsb⟩:∃s,s=Int.sign b:=⟨_,rfl⟩;obtain⟨r,hr⟩:∃r,r=cmpI a b:=⟨_,rfl⟩;rw[← hsa,← hsb,← hr] at hsc;rw[← hsa,← hsb,← hr,← ha6,← hb6] at hzc;rw[← hsa,← hsb,← hr];rw[← hsa] at hs3;have hr3:=cmpI_three a b;rw[← hr] at hr3;have hb0:Below w.heap.size w ((w.alloc (.cells #[.int .i64 sa,.slice A la.length ca] 234)).alloc (.cells #[.int .i64 sb,.slice B lb.length cb] 234)):=((kA3 _ w).alloc (kA2 _) _).alloc kD6 _;have h0:((w.alloc (.cells #[.int .i64 sa,.slice A la.length ca] 234)).alloc (.cells #[.int .i64 sb,.slice B lb.length cb] 234)).heap[w.heap.size]?=some (.cells #[.int .i64 sa,.slice A la.length ca] 234 (0,0)):=(kA4 _ _ _ kD6).trans (zA4 w _);have h1:((w.alloc (.cells #[.int .i64 sa,.slice A la.length ca] 234)).alloc (.cells #[.int .i64 sb,.slice B lb.length cb] 234)).heap[w.heap.size+1]?=some (.cells #[.int .i64 sb,.slice B lb.length cb] 234 (0,0)):=zAD _ _ _ kD6;obtain⟨t,ht⟩:∃t,t=cmpI (val la) (val lb):=⟨_,rfl⟩;have hsz:=fun w' (h1:Below w.heap.size w w')=>size_list sa sb la lb A B ca cb w' ha2 hb2 (Kd.C_below ha3 h1) (Kd.C_below hb3 h1) ha4 hb4 ha5 hb5
 rw[← ht] at hsz hzc;have ht3:=cmpI_three (val la) (val lb);rw[← ht] at ht3;have HSZ:=kA1 hsz;clear hsz ha3 hb3 ha4 hb4 ha5 hb5 hsa hsb hr ht ha6 hb6;by_cases hne:sa=sb
 ·have hbf:(sa != sb)=false:=by rw[hne];simp
  have HZ:=kA1 (hzc hne);have hwr:IntKind.i64.wrap (sa*t)=r:=by
   rw[HZ.out];rcases hr3 with h | h | h<;>rw[h]<;>rfl
  clear hsc hzc hne hr3 ht3 hs3;go_enter Tryz.func191,Tryz.ntmps191;go_wp2_with fail;generalize (w.alloc (.cells #[.int .i64 sa,.slice A la.length ca] 234)).alloc (.cells #[.int .i64 sb,.slice B lb.length cb] 234)=X at *;have BW:=hb0.drew;have K:X.drew.cell? ⟨w.heap.size,0,none⟩=some (.int .i64 sa)∧X.drew.cell? ⟨w.heap.size,1,none⟩=some (.slice A la.length ca)∧X.drew.cell? ⟨w.heap.size+1,0,none⟩=some (.int .i64 sb)∧X.drew.cell? ⟨w.heap.size+1,1,none⟩=some (.slice B lb.length cb) :=
   ⟨zA1 h0 0,zA1 h0 1,zA1 h1 0,zA1 h1 1⟩
  have hlt:=zA5 h1
  go_region_held3 (fun w':World=>w'.cell? ⟨w.heap.size,0,none⟩=some (.int .i64 sa)∧w'.cell? ⟨w.heap.size,1,none⟩=some (.slice A la.length ca)∧w'.cell? ⟨w.heap.size+1,0,none⟩=some (.int .i64 sb)∧w'.cell? ⟨w.heap.size+1,1,none⟩=some (.slice B lb.length cb)) (first | exact K) (first
   | (go_at_call 234;refine (HSZ.out _ BW).mono ?_;rintro e wq ⟨rfl,hq⟩;have K:=And.intro (zA0 hq K.1) (And.intro (zA0 hq K.2.1) (And.intro (zA0 hq K.2.2.1) (zA0 hq K.2.2.2)));have BW:=BW.trans (hq.mono BW.size)))
  go_wp2
  try rw[hwr]
  go_ret;exact⟨rfl,BW⟩
 ·have hbf:(sa != sb)=true:=by simp[hne]
  have hcs:=cmp_sign sa sb;rw[hsc hne] at hcs;have HCS:=kA1 hcs;clear hcs hsc hzc hne hr3 ht3 hs3;have c0:=zA1 h0 0;have c1:=zA1 h1 0;have l0:=zA5 h0;go_enter Tryz.func191,Tryz.ntmps191;go_wp2_with (go_at_call 233;refine (HCS.out _).mono ?_;rintro e wq ⟨rfl,hq⟩);go_ret;exact⟨rfl,hb0.trans (hq.mono hb0.size)⟩
theorem One.ln {w:World} {n:Int} {v:Value} (h:One w n v) (h1:1≤n) (h2:n<1000000000):LN w n v:=by
 obtain⟨g,c,hc,rfl,hg⟩:=h.out;have hs:Int.sign n=1:=kAu kD4;refine⟨[n],some g,c,by rw[hs];rfl,hc,kD6,?_,?_,?_,?_⟩
 ·exact zEo kD6 (fun i hi=>by
   obtain rfl:i=0:=by simp at hi;omega
   rw[kAH];exact hg)
 ·intro x hx;simp at hx;subst hx;omega
 ·intro i hi he;obtain rfl:i=0:=by simp at hi;omega
  simp;omega
 ·simp only[val];omega
theorem of1_LN (w:World):Calls Tryz.prog 192 #[.int .i64 1] w fun e w'=>∃v,e=.returned v∧LN w' 1 v∧Below w.heap.size w w' :=
 (of1_calls w).mono fun _ _ ⟨v,h1,h2,h3⟩=>⟨v,h1,h2.ln kD4 kD4,h3⟩
end Go.Proofs.YtjaobihcdkjmbaaGreatDoor
end
