/- The law ReadPlace answers true for every argument; a part of its proof. -/
import Derived.Test.YtjaobihcdkjmbaaGreatDoorCa
import Derived.Test.YtjaobihcdkjmbaaGreatDoorCb
import Derived.Test.YtjaobihcdkjmbaaGreatDoorC0
import Derived.Test.YtjaobihcdkjmbaaGreatDoorC7
import Derived.Test.YtjaobihcdkjmbaaGreatDoorC8
import Derived.Test.YtjaobihcdkjmbaaGreatDoorC9
import Derived.Test.YtjaobihcdkjmbaaGreatDoorC12
import Derived.Test.YtjaobihcdkjmbaaGreatDoorC16
import Derived.Test.YtjaobihcdkjmbaaGreatDoorC17
import Derived.Test.YtjaobihcdkjmbaaGreatDoorC19
import Derived.Test.YtjaobihcdkjmbaaGreatDoorC22
import Derived.Test.YtjaobihcdkjmbaaGreatDoorC23
import Derived.Test.YtjaobihcdkjmbaaGreatDoorC26
import Derived.Test.YtjaobihcdkjmbaaGreatDoorC27
import Derived.Test.YtjaobihcdkjmbaaGreatDoorC31
import Derived.Test.YtjaobihcdkjmbaaGreatDoorC32
import Derived.Test.YtjaobihcdkjmbaaGreatDoorC33
import Derived.Test.YtjaobihcdkjmbaaGreatDoorC35
import Derived.Test.YtjaobihcdkjmbaaGreatDoorC37
import Derived.Test.YtjaobihcdkjmbaaGreatDoorC38
import Derived.Test.YtjaobihcdkjmbaaGreatDoorC41
import Derived.Test.YtjaobihcdkjmbaaGreatDoorC42
set_option linter.unusedVariables false
set_option linter.unusedSimpArgs false
namespace Go.Proofs.YtjaobihcdkjmbaaGreatDoor.PReadTokens
end Go.Proofs.YtjaobihcdkjmbaaGreatDoor.PReadTokens
namespace Go.Proofs.YtjaobihcdkjmbaaGreatDoorW.PrintWords
end Go.Proofs.YtjaobihcdkjmbaaGreatDoorW.PrintWords
set_option maxRecDepth 100000
set_option maxHeartbeats 4000000
section
namespace Go.Proofs.YtjaobihcdkjmbaaGreatDoor
open Go.RowKit Go.Proofs.YtjaobihcdkjmbaaGreatDoorW.PrintWords Go.Proofs.YtjaobihcdkjmbaaGreatDoor.PReadTokens
theorem zDa (w:World):(Op.equalIn 10000 198 (.agg #[.int .i64 0,.int .i64 0]) (.agg #[.int .i64 0,.int .i64 0])).run Tryz.prog w=.ok true w:=kCX
theorem zD9 (w:World):(Op.equalIn 10000 198 (.agg #[.int .i64 (-9),.int .i64 9]) (.agg #[.int .i64 0,.int .i64 0])).run Tryz.prog w=.ok false w:=kCX
theorem zCk (w:World):(Op.equalIn 10000 198 (.agg #[.int .i64 1,.int .i64 99]) (.agg #[.int .i64 0,.int .i64 0])).run Tryz.prog w=.ok false w:=kCX
theorem zEc (op:Int):(zAL op=0∧zAM op=0)∨(zAL op=-9∧zAM op=9)∨(zAL op=1∧zAM op=99):=by
 unfold zAL zAM;by_cases h7:op=7
 ·simp[h7]
 ·by_cases h10:op=10∨op=11
  ·simp[h7,h10]
  ·simp[h7,h10]
theorem look_other_num (x:S31) (v5:Value) (w:World) (A:Option Addr) (c:Nat) (hv5:v5=.slice A x.f4.length c) (h0:0≤x.f0) (h1:x.f0≤14) (hlo:zBh x.f0≤x.f4.length) (hhi:(x.f4.length:Int)≤zBj x.f0)
  (hop:x.f0≠0) (hnum:x.f1≠z28):Calls Tryz.prog 102 #[exV x v5] w (zE7 1 w):=by
 obtain⟨op,num,name,size,xs⟩:=x;subst hv5;simp only at *;have hin:=zBH op 0 14;rw[kA5 h0,kA5 h1] at hin;have l1:decide ((xs.length:Int)<zBh op)=false:=kA6 kCW;have l2:decide (zBj op<(xs.length:Int))=false:=kA6 kCW;have hz:=zEc op;have E0:=zDa;have E9:=zD9;have E99:=zCk;have hA:=zAJ op;have hZ:=zBr op;have hin2:=zBH size (zAL op) (zAM op);obtain⟨nu,de⟩:=num;have b0:=zAA hop;have E28:=eq28 nu de ⟨#[]⟩ ⟨#[]⟩;have hne:(nu.toList==(⟨#[]⟩:ByteArray).toList&&de.toList==(⟨#[]⟩:ByteArray).toList)=false:=by
  rw[nil_eq,nil_eq,kB9];by_cases h:nu=⟨#[]⟩
  ·refine .inr (kA6 (fun h2=>hnum ?_));rw[h,h2];rfl
  ·exact .inl (kA6 h)
 rw[hne] at E28;generalize zBh op=aL at *;generalize zBj op=aH at *;generalize zAL op=sL at *;generalize zAM op=sH at *;clear h0 h1 hlo hhi hop hnum hne hz hZ hin2 E0 E9 E99;unfold exV;simp only;go_enter Tryz.func102,Tryz.ntmps102;go_wp2_with (first
  | (go_at_call 104;(with_reducible refine (hin _).mono ?_);rintro e wq ⟨rfl,hq⟩;subst wq)
  | (go_at_call 67;(with_reducible refine (zAt _ _).mono ?_);rintro e wq ⟨rfl,hq⟩;subst wq)
  | (go_at_call 67;(with_reducible refine (zAd _ _).mono ?_);rintro e wq ⟨rfl,hq⟩;subst wq))
 refine (hA _).mono ?_;rintro e w1 ⟨rfl,hb1⟩;have hx1:=zAb hb1 (zA4 w (.cells #[.int .i64 op,.string nu,.string de,.string name,.int .i64 size,.slice A xs.length c] 31));obtain⟨⟨q0,q1,q2,q3,q4,q5⟩,_,xl⟩:=zA9 hx1;have hbw:Below w.heap.size w w1:=((kA3 _ w).alloc (kA2 _) _).trans (hb1.mono kCY);have hbw':=hbw.alloc hbw.size (.cells #[.int .i64 aL,.int .i64 aH] 198);have HX:=kA1 hx1;clear hx1;go_wp2_with (first
  | (go_at_call 104;(with_reducible refine (hin _).mono ?_);rintro e wq ⟨rfl,hq⟩;subst wq)
  | (go_at_call 67;(with_reducible refine (zAt _ _).mono ?_);rintro e wq ⟨rfl,hq⟩;subst wq)
  | (go_at_call 67;(with_reducible refine (zAd _ _).mono ?_);rintro e wq ⟨rfl,hq⟩;subst wq))
 exact⟨rfl,hbw',.inr ⟨kCW,rfl⟩⟩
theorem look_other_bad (x:S31) (v5:Value) (w:World) (A:Option Addr) (c:Nat) (hv5:v5=.slice A x.f4.length c) (h0:0≤x.f0) (h1:x.f0≤14) (hlo:zBh x.f0≤x.f4.length) (hhi:(x.f4.length:Int)≤zBj x.f0)
  (hop:x.f0≠0∧x.f0≠1∧x.f0≠10∧x.f0≠11∧x.f0≠13∧x.f0≠14) (hnum:x.f1=z28) (hname:x.f2≠⟨#[]⟩):Calls Tryz.prog 102 #[exV x v5] w (zE7 4 w):=by
 obtain⟨op,num,name,size,xs⟩:=x;subst hv5;simp only at *;have hin:=zBH op 0 14;rw[kA5 h0,kA5 h1] at hin;have l1:decide ((xs.length:Int)<zBh op)=false:=kA6 kCW;have l2:decide (zBj op<(xs.length:Int))=false:=kA6 kCW;have hz:=zEc op;have E0:=zDa;have E9:=zD9;have E99:=zCk;have hA:=zAJ op;have hZ:=zBr op;have hin2:=zBH size (zAL op) (zAM op);subst hnum;obtain⟨n0,n1,n10,n11,n13,n14⟩:=hop;have b0:=zAA n0;have b1:=zAA n1;have b10:=zAA n10;have b11:=zAA n11;have b13:=zAA n13;have b14:=zAA n14;have hsome:name.toList.isEmpty=false:=by
  cases h:name.toList with
  | nil=>exact absurd (str_nil h) hname
  | cons _ _=>rfl
 generalize zBh op=aL at *;generalize zBj op=aH at *;generalize zAL op=sL at *;generalize zAM op=sH at *;clear h0 h1 hlo hhi n0 n1 n10 n11 n13 n14 hname hz hZ hin2 E0 E9 E99;unfold exV z28;simp only;go_enter Tryz.func102,Tryz.ntmps102;go_wp2_with (first
  | (go_at_call 104;(with_reducible refine (hin _).mono ?_);rintro e wq ⟨rfl,hq⟩;subst wq)
  | (go_at_call 67;(with_reducible refine (zAt _ _).mono ?_);rintro e wq ⟨rfl,hq⟩;subst wq)
  | (go_at_call 67;(with_reducible refine (zAd _ _).mono ?_);rintro e wq ⟨rfl,hq⟩;subst wq))
 refine (hA _).mono ?_;rintro e w1 ⟨rfl,hb1⟩;have hx1:=zAb hb1 (zA4 w (.cells #[.int .i64 op,.string ⟨#[]⟩,.string ⟨#[]⟩,.string name,.int .i64 size,.slice A xs.length c] 31));obtain⟨⟨q0,q1,q2,q3,q4,q5⟩,_,xl⟩:=zA9 hx1;have hbw:Below w.heap.size w w1:=((kA3 _ w).alloc (kA2 _) _).trans (hb1.mono kCY);have hbw':=hbw.alloc hbw.size (.cells #[.int .i64 aL,.int .i64 aH] 198);have HX:=kA1 hx1;clear hx1;go_wp2_with (first
  | (go_at_call 104;(with_reducible refine (hin _).mono ?_);rintro e wq ⟨rfl,hq⟩;subst wq)
  | (go_at_call 67;(with_reducible refine (zAt _ _).mono ?_);rintro e wq ⟨rfl,hq⟩;subst wq)
  | (go_at_call 67;(with_reducible refine (zAd _ _).mono ?_);rintro e wq ⟨rfl,hq⟩;subst wq))
 exact⟨rfl,hbw',.inr ⟨kCW,rfl⟩⟩
theorem zFX (x:S31) (v5:Value) (w:World) (A:Option Addr) (c:Nat) (hv5:v5=.slice A x.f4.length c) (h0:0≤x.f0) (h1:x.f0≤14) (hlo:zBh x.f0≤x.f4.length) (hhi:(x.f4.length:Int)≤zBj x.f0)
  (hop:x.f0≠0∧x.f0≠1∧x.f0≠10∧x.f0≠11∧x.f0≠13∧x.f0≠14) (hnum:x.f1=z28) (hname:x.f2=⟨#[]⟩) (n:Int) (hN:Hid (n=if x.f3<zAL x.f0∨zAM x.f0<x.f3 then 2 else 0)):Calls Tryz.prog 102 #[exV x v5] w (zE7 n w):=by
 obtain⟨op,num,name,size,xs⟩:=x;subst hv5;simp only at *;have hin:=zBH op 0 14;rw[kA5 h0,kA5 h1] at hin;have l1:decide ((xs.length:Int)<zBh op)=false:=kA6 kCW;have l2:decide (zBj op<(xs.length:Int))=false:=kA6 kCW;have hz:=zEc op;have E0:=zDa;have E9:=zD9;have E99:=zCk;have hA:=zAJ op;have hZ:=zBr op;have hin2:=zBH size (zAL op) (zAM op);subst hnum hname;obtain⟨n0,n1,n10,n11,n13,n14⟩:=hop;have b0:=zAA n0;have b1:=zAA n1;have b10:=zAA n10;have b11:=zAA n11;have b13:=zAA n13;have b14:=zAA n14;generalize zBh op=aL at *;generalize zBj op=aH at *;generalize zAL op=sL at *;generalize zAM op=sH at *;clear h0 h1 hlo hhi n0 n1 n10 n11 n13 n14;unfold exV z28;simp only;go_enter Tryz.func102,Tryz.ntmps102;go_wp2_with (first
  | (go_at_call 104;(with_reducible refine (hin _).mono ?_);rintro e wq ⟨rfl,hq⟩;subst wq)
  | (go_at_call 67;(with_reducible refine (zAt _ _).mono ?_);rintro e wq ⟨rfl,hq⟩;subst wq)
  | (go_at_call 67;(with_reducible refine (zAd _ _).mono ?_);rintro e wq ⟨rfl,hq⟩;subst wq))
 refine (hA _).mono ?_;rintro e w1 ⟨rfl,hb1⟩;have hx1:=zAb hb1 (zA4 w (.cells #[.int .i64 op,.string ⟨#[]⟩,.string ⟨#[]⟩,.string ⟨#[]⟩,.int .i64 size,.slice A xs.length c] 31));obtain⟨⟨q0,q1,q2,q3,q4,q5⟩,_,xl⟩:=zA9 hx1;have hbw:Below w.heap.size w w1:=((kA3 _ w).alloc (kA2 _) _).trans (hb1.mono kCY);have hbw':=hbw.alloc hbw.size (.cells #[.int .i64 aL,.int .i64 aH] 198);have HX:=kA1 hx1;clear hx1;have HX1:=HX;go_wp2_with (first
  | (go_at_call 104;(with_reducible refine (hin _).mono ?_);rintro e wq ⟨rfl,hq⟩;subst wq)
  | (go_at_call 67;(with_reducible refine (zAt _ _).mono ?_);rintro e wq ⟨rfl,hq⟩;subst wq)
  | (go_at_call 67;(with_reducible refine (zAd _ _).mono ?_);rintro e wq ⟨rfl,hq⟩;subst wq))
 have HXa:=kA1 ((kA4 w1 (.cells #[.int .i64 aL,.int .i64 aH] 198) _ xl).trans HX.out);have HYa:=kA1 (zA4 w1 (.cells #[.int .i64 aL,.int .i64 aH] 198));have hbwa:=hbw';clear HX1;refine (hZ _).mono ?_;rintro e w2 ⟨rfl,hb2⟩;have hx2:=zAb hb2 HXa.out;have hy2:=zAb hb2 HYa.out;have hbw2:=hbwa.trans (hb2.mono hbwa.size);have hw1:=hbw.size;obtain⟨⟨p0,p1,p2,p3,p4,p5⟩,_,xl2⟩:=zA9 hx2;have y0:=zA1 hy2 0;have y1:=zA1 hy2 1;have z0:=zA2 hy2 0;have z1:=zA2 hy2 1;have yl:=zA5 hy2;have hneq:=kB1 xl;clear hx2 hy2 HX hb1 hb2;by_cases hsz:size<sL∨sH<size
 ·have hn:n=2:=by rw[hN.out,kAb hsz]
  have hsb:(decide (sL≤size)&&decide (size≤sH))=false:=by
   rw[kB9];rcases hsz with h | h
   ·exact .inl (kA6 kCW)
   ·exact .inr (kA6 kCW)
  rw[hsb] at hin2;subst hn;clear hsb;rcases hz with⟨rfl,rfl⟩ | ⟨rfl,rfl⟩ | ⟨rfl,rfl⟩
  ·have hs:(size==0)=false:=zAA kCW;have hs':(size != 0)=true:=by rw[bne,hs];rfl
   clear hsz;go_wp2_with (first
    | (go_at_call 104;(with_reducible refine (hin2 _).mono ?_);rintro e wq ⟨rfl,hq⟩;subst wq)
    | (go_at_call 67;(with_reducible refine (zAt _ _).mono ?_);rintro e wq ⟨rfl,hq⟩;subst wq)
    | (go_at_call 67;(with_reducible refine (zAd _ _).mono ?_);rintro e wq ⟨rfl,hq⟩;subst wq))
   exact⟨rfl,(hbw2.setCell (p:=⟨w1.heap.size,0,none⟩) kCZ _).setCell (p:=⟨w1.heap.size,1,none⟩) kCZ _,.inr ⟨kCW,rfl⟩⟩
  all_goals
   clear hsz;go_wp2_with (first
    | (go_at_call 104;(with_reducible refine (hin2 _).mono ?_);rintro e wq ⟨rfl,hq⟩;subst wq)
    | (go_at_call 67;(with_reducible refine (zAt _ _).mono ?_);rintro e wq ⟨rfl,hq⟩;subst wq)
    | (go_at_call 67;(with_reducible refine (zAd _ _).mono ?_);rintro e wq ⟨rfl,hq⟩;subst wq))
   exact⟨rfl,(hbw2.setCell (p:=⟨w1.heap.size,0,none⟩) kCZ _).setCell (p:=⟨w1.heap.size,1,none⟩) kCZ _,.inr ⟨kCW,rfl⟩⟩
 ·have hn:n=0:=by rw[hN.out,kAa hsz]
  rw[kA5 (show sL≤size by omega),kA5 (show size≤sH by omega)] at hin2;subst hn;rcases hz with⟨rfl,rfl⟩ | ⟨rfl,rfl⟩ | ⟨rfl,rfl⟩
  ·have hs:(size==0)=true:=by rw[kAA];omega
   have hs':(size != 0)=false:=by rw[bne,hs];rfl
   clear hsz;go_wp2_with (first
    | (go_at_call 104;(with_reducible refine (hin2 _).mono ?_);rintro e wq ⟨rfl,hq⟩;subst wq)
    | (go_at_call 67;(with_reducible refine (zAt _ _).mono ?_);rintro e wq ⟨rfl,hq⟩;subst wq)
    | (go_at_call 67;(with_reducible refine (zAd _ _).mono ?_);rintro e wq ⟨rfl,hq⟩;subst wq))
   exact kBc (kAX rfl _ _ _) rfl ⟨(hbw2.setCell (p:=⟨w1.heap.size,0,none⟩) kCZ _).setCell (p:=⟨w1.heap.size,1,none⟩) kCZ _,.inl ⟨rfl,rfl⟩⟩
  all_goals
   clear hsz;go_wp2_with (first
    | (go_at_call 104;(with_reducible refine (hin2 _).mono ?_);rintro e wq ⟨rfl,hq⟩;subst wq)
    | (go_at_call 67;(with_reducible refine (zAt _ _).mono ?_);rintro e wq ⟨rfl,hq⟩;subst wq)
    | (go_at_call 67;(with_reducible refine (zAd _ _).mono ?_);rintro e wq ⟨rfl,hq⟩;subst wq))
   exact kBc (kAX rfl _ _ _) rfl ⟨(hbw2.setCell (p:=⟨w1.heap.size,0,none⟩) kCZ _).setCell (p:=⟨w1.heap.size,1,none⟩) kCZ _,.inl ⟨rfl,rfl⟩⟩
theorem look_named_bad (x:S31) (v5:Value) (w:World) (A:Option Addr) (c:Nat) (hv5:v5=.slice A x.f4.length c) (h0:0≤x.f0) (h1:x.f0≤14) (hlo:zBh x.f0≤x.f4.length) (hhi:(x.f4.length:Int)≤zBj x.f0)
  (hop:x.f0=1∨x.f0=10∨x.f0=11∨x.f0=13∨x.f0=14) (hnum:x.f1=z28) (hsz1:x.f2.size≤9223372036854775807) (hname:zC7 x.f2=false):Calls Tryz.prog 102 #[exV x v5] w (zE7 4 w):=by
 obtain⟨op,num,name,size,xs⟩:=x;subst hv5;simp only at *;have hin:=zBH op 0 14;rw[kA5 h0,kA5 h1] at hin;have l1:decide ((xs.length:Int)<zBh op)=false:=kA6 kCW;have l2:decide (zBj op<(xs.length:Int))=false:=kA6 kCW;have hz:=zEc op;have E0:=zDa;have E9:=zD9;have E99:=zCk;have hA:=zAJ op;have hZ:=zBr op;have hin2:=zBH size (zAL op) (zAM op);subst hnum;have hN:=fun w=>name_any name w hsz1
 rw[hname] at hN;generalize zBh op=aL at *;generalize zBj op=aH at *;generalize zAL op=sL at *;generalize zAM op=sH at *;clear h0 h1 hlo hhi hz hZ hin2 E0 E9 E99 hname;unfold exV z28;simp only;rcases hop with rfl | rfl | rfl | rfl | rfl
 all_goals
  go_enter Tryz.func102,Tryz.ntmps102;go_wp2_with (first
   | (go_at_call 104;(with_reducible refine (hin _).mono ?_);rintro e wq ⟨rfl,hq⟩;subst wq)
   | (go_at_call 67;(with_reducible refine (zAt _ _).mono ?_);rintro e wq ⟨rfl,hq⟩;subst wq)
   | (go_at_call 67;(with_reducible refine (zAd _ _).mono ?_);rintro e wq ⟨rfl,hq⟩;subst wq))
  refine (hA _).mono ?_;rintro e w1 ⟨rfl,hb1⟩;have hx1:=zAb hb1 (zA4 w (.cells #[.int .i64 _,.string ⟨#[]⟩,.string ⟨#[]⟩,.string name,.int .i64 size,.slice A xs.length c] 31));obtain⟨⟨q0,q1,q2,q3,q4,q5⟩,_,xl⟩:=zA9 hx1;have hbw:Below w.heap.size w w1:=((kA3 _ w).alloc (kA2 _) _).trans (hb1.mono kCY);have hbw':=hbw.alloc hbw.size (.cells #[.int .i64 aL,.int .i64 aH] 198);have HX:=kA1 hx1;clear hx1;go_wp2_with (first
  | (go_at_call 104;(with_reducible refine (hin _).mono ?_);rintro e wq ⟨rfl,hq⟩;subst wq)
  | (go_at_call 67;(with_reducible refine (zAt _ _).mono ?_);rintro e wq ⟨rfl,hq⟩;subst wq)
  | (go_at_call 67;(with_reducible refine (zAd _ _).mono ?_);rintro e wq ⟨rfl,hq⟩;subst wq))
  refine (hN _).mono ?_;rintro e w4 ⟨rfl,hb4⟩;have hbw4:=hbw'.trans (hb4.mono hbw'.size);go_wp2_with (first
  | (go_at_call 104;(with_reducible refine (hin _).mono ?_);rintro e wq ⟨rfl,hq⟩;subst wq)
  | (go_at_call 67;(with_reducible refine (zAt _ _).mono ?_);rintro e wq ⟨rfl,hq⟩;subst wq)
  | (go_at_call 67;(with_reducible refine (zAd _ _).mono ?_);rintro e wq ⟨rfl,hq⟩;subst wq))
  exact⟨rfl,hbw4,.inr ⟨kCW,rfl⟩⟩
theorem zFY (x:S31) (v5:Value) (w:World) (A:Option Addr) (c:Nat) (hv5:v5=.slice A x.f4.length c) (h0:0≤x.f0) (h1:x.f0≤14) (hlo:zBh x.f0≤x.f4.length) (hhi:(x.f4.length:Int)≤zBj x.f0)
  (hop:x.f0=1∨x.f0=10∨x.f0=11∨x.f0=13∨x.f0=14) (hnum:x.f1=z28) (hsz1:x.f2.size≤9223372036854775807) (hname:zC7 x.f2=true) (n:Int) (hN:Hid (n=if x.f3<zAL x.f0∨zAM x.f0<x.f3 then 2 else 0)):Calls Tryz.prog 102 #[exV x v5] w (zE7 n w):=by
 obtain⟨op,num,name,size,xs⟩:=x;subst hv5;simp only at *;have hin:=zBH op 0 14;rw[kA5 h0,kA5 h1] at hin;have l1:decide ((xs.length:Int)<zBh op)=false:=kA6 kCW;have l2:decide (zBj op<(xs.length:Int))=false:=kA6 kCW;have hz:=zEc op;have E0:=zDa;have E9:=zD9;have E99:=zCk;have hA:=zAJ op;have hZ:=zBr op;have hin2:=zBH size (zAL op) (zAM op);subst hnum;have hNm:=fun w=>name_any name w hsz1
 rw[hname] at hNm;generalize zBh op=aL at *;generalize zBj op=aH at *;generalize zAL op=sL at *;generalize zAM op=sH at *;clear h0 h1 hlo hhi hname;unfold exV z28;simp only;rcases hop with rfl | rfl | rfl | rfl | rfl
 all_goals
  go_enter Tryz.func102,Tryz.ntmps102;go_wp2_with (first
   | (go_at_call 104;(with_reducible refine (hin _).mono ?_);rintro e wq ⟨rfl,hq⟩;subst wq)
   | (go_at_call 67;(with_reducible refine (zAt _ _).mono ?_);rintro e wq ⟨rfl,hq⟩;subst wq)
   | (go_at_call 67;(with_reducible refine (zAd _ _).mono ?_);rintro e wq ⟨rfl,hq⟩;subst wq))
  refine (hA _).mono ?_;rintro e w1 ⟨rfl,hb1⟩;have hx1:=zAb hb1 (zA4 w (.cells #[.int .i64 _,.string ⟨#[]⟩,.string ⟨#[]⟩,.string name,.int .i64 size,.slice A xs.length c] 31));obtain⟨⟨q0,q1,q2,q3,q4,q5⟩,_,xl⟩:=zA9 hx1;have hbw:Below w.heap.size w w1:=((kA3 _ w).alloc (kA2 _) _).trans (hb1.mono kCY);have hbw':=hbw.alloc hbw.size (.cells #[.int .i64 aL,.int .i64 aH] 198);have HX:=kA1 hx1;clear hx1;go_wp2_with (first
  | (go_at_call 104;(with_reducible refine (hin _).mono ?_);rintro e wq ⟨rfl,hq⟩;subst wq)
  | (go_at_call 67;(with_reducible refine (zAt _ _).mono ?_);rintro e wq ⟨rfl,hq⟩;subst wq)
  | (go_at_call 67;(with_reducible refine (zAd _ _).mono ?_);rintro e wq ⟨rfl,hq⟩;subst wq))
  refine (hNm _).mono ?_;rintro e w4 ⟨rfl,hb4⟩;have HXa:=kA1 (zAb hb4 ((kA4 w1 (.cells #[.int .i64 aL,.int .i64 aH] 198) _ xl).trans HX.out));have HYa:=kA1 (zAb hb4 (zA4 w1 (.cells #[.int .i64 aL,.int .i64 aH] 198)));have hbwa:=hbw'.trans (hb4.mono hbw'.size);obtain⟨⟨r0,r1,r2,r3,r4,r5⟩,_,xl4⟩:=zA9 HXa.out;go_wp2_with (first
  | (go_at_call 104;(with_reducible refine (hin _).mono ?_);rintro e wq ⟨rfl,hq⟩;subst wq)
  | (go_at_call 67;(with_reducible refine (zAt _ _).mono ?_);rintro e wq ⟨rfl,hq⟩;subst wq)
  | (go_at_call 67;(with_reducible refine (zAd _ _).mono ?_);rintro e wq ⟨rfl,hq⟩;subst wq))
  refine (hZ _).mono ?_;rintro e w2 ⟨rfl,hb2⟩;have hx2:=zAb hb2 HXa.out;have hy2:=zAb hb2 HYa.out;have hbw2:=hbwa.trans (hb2.mono hbwa.size);have hw1:=hbw.size;obtain⟨⟨p0,p1,p2,p3,p4,p5⟩,_,xl2⟩:=zA9 hx2;have y0:=zA1 hy2 0;have y1:=zA1 hy2 1;have z0:=zA2 hy2 0;have z1:=zA2 hy2 1;have yl:=zA5 hy2;have hneq:=kB1 xl;clear hx2 hy2 HX hb1 hb2 hb4 r0 r1 r2 r3 r4 r5;by_cases hsz:size<sL∨sH<size
  ·have hn:n=2:=by rw[hN.out,kAb hsz]
   have hsb:(decide (sL≤size)&&decide (size≤sH))=false:=by
    rw[kB9];rcases hsz with h | h
    ·exact .inl (kA6 kCW)
    ·exact .inr (kA6 kCW)
   rw[hsb] at hin2;subst hn;clear hsb;rcases hz with⟨rfl,rfl⟩ | ⟨rfl,rfl⟩ | ⟨rfl,rfl⟩
   ·have hs:(size==0)=false:=zAA kCW;have hs':(size != 0)=true:=by rw[bne,hs];rfl
    clear hsz;go_wp2_with (first
     | (go_at_call 104;(with_reducible refine (hin2 _).mono ?_);rintro e wq ⟨rfl,hq⟩;subst wq)
     | (go_at_call 67;(with_reducible refine (zAt _ _).mono ?_);rintro e wq ⟨rfl,hq⟩;subst wq)
     | (go_at_call 67;(with_reducible refine (zAd _ _).mono ?_);rintro e wq ⟨rfl,hq⟩;subst wq))
    exact⟨rfl,(hbw2.setCell (p:=⟨w1.heap.size,0,none⟩) kCZ _).setCell (p:=⟨w1.heap.size,1,none⟩) kCZ _,.inr ⟨kCW,rfl⟩⟩
   all_goals
    clear hsz;go_wp2_with (first
     | (go_at_call 104;(with_reducible refine (hin2 _).mono ?_);rintro e wq ⟨rfl,hq⟩;subst wq)
     | (go_at_call 67;(with_reducible refine (zAt _ _).mono ?_);rintro e wq ⟨rfl,hq⟩;subst wq)
     | (go_at_call 67;(with_reducible refine (zAd _ _).mono ?_);rintro e wq ⟨rfl,hq⟩;subst wq))
    exact⟨rfl,(hbw2.setCell (p:=⟨w1.heap.size,0,none⟩) kCZ _).setCell (p:=⟨w1.heap.size,1,none⟩) kCZ _,.inr ⟨kCW,rfl⟩⟩
  ·have hn:n=0:=by rw[hN.out,kAa hsz]
   rw[kA5 (show sL≤size by omega),kA5 (show size≤sH by omega)] at hin2;subst hn;rcases hz with⟨rfl,rfl⟩ | ⟨rfl,rfl⟩ | ⟨rfl,rfl⟩
   ·have hs:(size==0)=true:=by rw[kAA];omega
    have hs':(size != 0)=false:=by rw[bne,hs];rfl
    clear hsz;go_wp2_with (first
     | (go_at_call 104;(with_reducible refine (hin2 _).mono ?_);rintro e wq ⟨rfl,hq⟩;subst wq)
     | (go_at_call 67;(with_reducible refine (zAt _ _).mono ?_);rintro e wq ⟨rfl,hq⟩;subst wq)
     | (go_at_call 67;(with_reducible refine (zAd _ _).mono ?_);rintro e wq ⟨rfl,hq⟩;subst wq))
    exact kBc (kAX rfl _ _ _) rfl ⟨(hbw2.setCell (p:=⟨w1.heap.size,0,none⟩) kCZ _).setCell (p:=⟨w1.heap.size,1,none⟩) kCZ _,.inl ⟨rfl,rfl⟩⟩
   all_goals
    clear hsz;go_wp2_with (first
     | (go_at_call 104;(with_reducible refine (hin2 _).mono ?_);rintro e wq ⟨rfl,hq⟩;subst wq)
     | (go_at_call 67;(with_reducible refine (zAt _ _).mono ?_);rintro e wq ⟨rfl,hq⟩;subst wq)
     | (go_at_call 67;(with_reducible refine (zAd _ _).mono ?_);rintro e wq ⟨rfl,hq⟩;subst wq))
    exact kBc (kAX rfl _ _ _) rfl ⟨(hbw2.setCell (p:=⟨w1.heap.size,0,none⟩) kCZ _).setCell (p:=⟨w1.heap.size,1,none⟩) kCZ _,.inl ⟨rfl,rfl⟩⟩
theorem look_lit_chk (x:S31) (v5:Value) (w:World) (A:Option Addr) (c:Nat) (hv5:v5=.slice A x.f4.length c) (h0:0≤x.f0) (h1:x.f0≤14) (hlo:zBh x.f0≤x.f4.length) (hhi:(x.f4.length:Int)≤zBj x.f0)
  (hop:x.f0=0) (hS:Start w) (hs1:x.f1.f0.size≤9223372036854775807) (hs2:x.f1.f1.size≤9223372036854775807) (m:Int) (hm:m=chkR x.f1) (hm0:m≠0):Calls Tryz.prog 102 #[exV x v5] w (zE7 m w):=by
 obtain⟨op,num,name,size,xs⟩:=x;subst hv5;simp only at *;have hin:=zBH op 0 14;rw[kA5 h0,kA5 h1] at hin;have l1:decide ((xs.length:Int)<zBh op)=false:=kA6 kCW;have l2:decide (zBj op<(xs.length:Int))=false:=kA6 kCW;have hz:=zEc op;have E0:=zDa;have E9:=zD9;have E99:=zCk;have hA:=zAJ op;have hZ:=zBr op;have hin2:=zBH size (zAL op) (zAM op);obtain⟨nu,de⟩:=num;simp only at *;subst hop;have hC:=fun w hS=>zBn nu de hs1 hs2 w hS
 rw[← hm] at hC;have hmb:(m != 0)=true:=by simp[hm0]
 replace hm0:=kA1 hm0;clear hm;generalize zBh 0=aL at *;generalize zBj 0=aH at *;generalize zAL 0=sL at *;generalize zAM 0=sH at *;clear h0 h1 hlo hhi hz hZ hin2 E0 E9 E99;unfold exV;simp only;go_enter Tryz.func102,Tryz.ntmps102;go_wp2_with (first
  | (go_at_call 104;(with_reducible refine (hin _).mono ?_);rintro e wq ⟨rfl,hq⟩;subst wq)
  | (go_at_call 67;(with_reducible refine (zAt _ _).mono ?_);rintro e wq ⟨rfl,hq⟩;subst wq)
  | (go_at_call 67;(with_reducible refine (zAd _ _).mono ?_);rintro e wq ⟨rfl,hq⟩;subst wq))
 refine (hA _).mono ?_;rintro e w1 ⟨rfl,hb1⟩;have hx1:=zAb hb1 (zA4 w (.cells #[.int .i64 0,.string nu,.string de,.string name,.int .i64 size,.slice A xs.length c] 31));obtain⟨⟨q0,q1,q2,q3,q4,q5⟩,_,xl⟩:=zA9 hx1;have hbw:Below w.heap.size w w1:=((kA3 _ w).alloc (kA2 _) _).trans (hb1.mono kCY);have hbw':=hbw.alloc hbw.size (.cells #[.int .i64 aL,.int .i64 aH] 198);have HX:=kA1 hx1;clear hx1;go_wp2_with (first
  | (go_at_call 104;(with_reducible refine (hin _).mono ?_);rintro e wq ⟨rfl,hq⟩;subst wq)
  | (go_at_call 67;(with_reducible refine (zAt _ _).mono ?_);rintro e wq ⟨rfl,hq⟩;subst wq)
  | (go_at_call 67;(with_reducible refine (zAd _ _).mono ?_);rintro e wq ⟨rfl,hq⟩;subst wq))
 refine (hC _ (hS.below hbw')).mono ?_;rintro e w4 ⟨rfl,hb4⟩;have HXa:=kA1 (zAb hb4 ((kA4 w1 (.cells #[.int .i64 aL,.int .i64 aH] 198) _ xl).trans HX.out));have HYa:=kA1 (zAb hb4 (zA4 w1 (.cells #[.int .i64 aL,.int .i64 aH] 198)));have hbwa:=hbw'.trans (hb4.mono hbw'.size);obtain⟨⟨r0,r1,r2,r3,r4,r5⟩,_,xl4⟩:=zA9 HXa.out;go_wp2_with (first
  | (go_at_call 104;(with_reducible refine (hin _).mono ?_);rintro e wq ⟨rfl,hq⟩;subst wq)
  | (go_at_call 67;(with_reducible refine (zAt _ _).mono ?_);rintro e wq ⟨rfl,hq⟩;subst wq)
  | (go_at_call 67;(with_reducible refine (zAd _ _).mono ?_);rintro e wq ⟨rfl,hq⟩;subst wq))
 exact⟨rfl,hbwa,.inr ⟨hm0.out,rfl⟩⟩
theorem look_lit_neg (x:S31) (v5:Value) (w:World) (A:Option Addr) (c:Nat) (hv5:v5=.slice A x.f4.length c) (h0:0≤x.f0) (h1:x.f0≤14) (hlo:zBh x.f0≤x.f4.length) (hhi:(x.f4.length:Int)≤zBj x.f0)
  (hop:x.f0=0) (hS:Start w) (hs1:x.f1.f0.size≤9223372036854775807) (hs2:x.f1.f1.size≤9223372036854775807) (hm:chkR x.f1=0) (hp:0<x.f1.f0.size) (hneg:(((x.f1.f0[0]'hp).toNat:Int)==45)=true):Calls Tryz.prog 102 #[exV x v5] w (zE7 2 w):=by
 obtain⟨op,num,name,size,xs⟩:=x;subst hv5;simp only at *;have hin:=zBH op 0 14;rw[kA5 h0,kA5 h1] at hin;have l1:decide ((xs.length:Int)<zBh op)=false:=kA6 kCW;have l2:decide (zBj op<(xs.length:Int))=false:=kA6 kCW;have hz:=zEc op;have E0:=zDa;have E9:=zD9;have E99:=zCk;have hA:=zAJ op;have hZ:=zBr op;have hin2:=zBH size (zAL op) (zAM op);obtain⟨nu,de⟩:=num;simp only at *;subst hop;have hC:=fun w hS=>zBn nu de hs1 hs2 w hS
 rw[hm] at hC;clear hm;generalize zBh 0=aL at *;generalize zBj 0=aH at *;generalize zAL 0=sL at *;generalize zAM 0=sH at *;clear h0 h1 hlo hhi hz hZ hin2 E0 E9 E99;unfold exV;simp only;go_enter Tryz.func102,Tryz.ntmps102;go_wp2_with (first
  | (go_at_call 104;(with_reducible refine (hin _).mono ?_);rintro e wq ⟨rfl,hq⟩;subst wq)
  | (go_at_call 67;(with_reducible refine (zAt _ _).mono ?_);rintro e wq ⟨rfl,hq⟩;subst wq)
  | (go_at_call 67;(with_reducible refine (zAd _ _).mono ?_);rintro e wq ⟨rfl,hq⟩;subst wq))
 refine (hA _).mono ?_;rintro e w1 ⟨rfl,hb1⟩;have hx1:=zAb hb1 (zA4 w (.cells #[.int .i64 0,.string nu,.string de,.string name,.int .i64 size,.slice A xs.length c] 31));obtain⟨⟨q0,q1,q2,q3,q4,q5⟩,_,xl⟩:=zA9 hx1;have hbw:Below w.heap.size w w1:=((kA3 _ w).alloc (kA2 _) _).trans (hb1.mono kCY);have hbw':=hbw.alloc hbw.size (.cells #[.int .i64 aL,.int .i64 aH] 198);have HX:=kA1 hx1;clear hx1;go_wp2_with (first
  | (go_at_call 104;(with_reducible refine (hin _).mono ?_);rintro e wq ⟨rfl,hq⟩;subst wq)
  | (go_at_call 67;(with_reducible refine (zAt _ _).mono ?_);rintro e wq ⟨rfl,hq⟩;subst wq)
  | (go_at_call 67;(with_reducible refine (zAd _ _).mono ?_);rintro e wq ⟨rfl,hq⟩;subst wq))
 refine (hC _ (hS.below hbw')).mono ?_;rintro e w4 ⟨rfl,hb4⟩;have HXa:=kA1 (zAb hb4 ((kA4 w1 (.cells #[.int .i64 aL,.int .i64 aH] 198) _ xl).trans HX.out));have HYa:=kA1 (zAb hb4 (zA4 w1 (.cells #[.int .i64 aL,.int .i64 aH] 198)));have hbwa:=hbw'.trans (hb4.mono hbw'.size);obtain⟨⟨r0,r1,r2,r3,r4,r5⟩,_,xl4⟩:=zA9 HXa.out;go_wp2_with (first
  | (go_at_call 104;(with_reducible refine (hin _).mono ?_);rintro e wq ⟨rfl,hq⟩;subst wq)
  | (go_at_call 67;(with_reducible refine (zAt _ _).mono ?_);rintro e wq ⟨rfl,hq⟩;subst wq)
  | (go_at_call 67;(with_reducible refine (zAd _ _).mono ?_);rintro e wq ⟨rfl,hq⟩;subst wq))
 exact⟨rfl,hbwa,.inr ⟨kCW,rfl⟩⟩
theorem look_lit_bad (x:S31) (v5:Value) (w:World) (A:Option Addr) (c:Nat) (hv5:v5=.slice A x.f4.length c) (h0:0≤x.f0) (h1:x.f0≤14) (hlo:zBh x.f0≤x.f4.length) (hhi:(x.f4.length:Int)≤zBj x.f0)
  (hop:x.f0=0) (hS:Start w) (hs1:x.f1.f0.size≤9223372036854775807) (hs2:x.f1.f1.size≤9223372036854775807) (hm:chkR x.f1=0) (hp:0<x.f1.f0.size) (hneg:(((x.f1.f0[0]'hp).toNat:Int)==45)=false) (hs3:x.f2.size<9223372036854775807) (hne:x.f2≠⟨#[]⟩) (hub:zCB x.f2=false):Calls Tryz.prog 102 #[exV x v5] w (zE7 4 w):=by
 obtain⟨op,num,name,size,xs⟩:=x;subst hv5;simp only at *;have hin:=zBH op 0 14;rw[kA5 h0,kA5 h1] at hin;have l1:decide ((xs.length:Int)<zBh op)=false:=kA6 kCW;have l2:decide (zBj op<(xs.length:Int))=false:=kA6 kCW;have hz:=zEc op;have E0:=zDa;have E9:=zD9;have E99:=zCk;have hA:=zAJ op;have hZ:=zBr op;have hin2:=zBH size (zAL op) (zAM op);obtain⟨nu,de⟩:=num;simp only at *;subst hop;have hC:=fun w hS=>zBn nu de hs1 hs2 w hS
 rw[hm] at hC;clear hm;have hU:=fun w=>unit_any name hs3 w
 rw[hub] at hU;have hsome:name.toList.isEmpty=false:=by
  cases h:name.toList with
  | nil=>exact absurd (str_nil h) hne
  | cons _ _=>rfl
 generalize zBh 0=aL at *;generalize zBj 0=aH at *;generalize zAL 0=sL at *;generalize zAM 0=sH at *;clear h0 h1 hlo hhi hz hZ hin2 E0 E9 E99 hne hub;unfold exV;simp only;go_enter Tryz.func102,Tryz.ntmps102;go_wp2_with (first
  | (go_at_call 104;(with_reducible refine (hin _).mono ?_);rintro e wq ⟨rfl,hq⟩;subst wq)
  | (go_at_call 67;(with_reducible refine (zAt _ _).mono ?_);rintro e wq ⟨rfl,hq⟩;subst wq)
  | (go_at_call 67;(with_reducible refine (zAd _ _).mono ?_);rintro e wq ⟨rfl,hq⟩;subst wq))
 refine (hA _).mono ?_;rintro e w1 ⟨rfl,hb1⟩;have hx1:=zAb hb1 (zA4 w (.cells #[.int .i64 0,.string nu,.string de,.string name,.int .i64 size,.slice A xs.length c] 31));obtain⟨⟨q0,q1,q2,q3,q4,q5⟩,_,xl⟩:=zA9 hx1;have hbw:Below w.heap.size w w1:=((kA3 _ w).alloc (kA2 _) _).trans (hb1.mono kCY);have hbw':=hbw.alloc hbw.size (.cells #[.int .i64 aL,.int .i64 aH] 198);have HX:=kA1 hx1;clear hx1;go_wp2_with (first
  | (go_at_call 104;(with_reducible refine (hin _).mono ?_);rintro e wq ⟨rfl,hq⟩;subst wq)
  | (go_at_call 67;(with_reducible refine (zAt _ _).mono ?_);rintro e wq ⟨rfl,hq⟩;subst wq)
  | (go_at_call 67;(with_reducible refine (zAd _ _).mono ?_);rintro e wq ⟨rfl,hq⟩;subst wq))
 refine (hC _ (hS.below hbw')).mono ?_;rintro e w4 ⟨rfl,hb4⟩;have HXa:=kA1 (zAb hb4 ((kA4 w1 (.cells #[.int .i64 aL,.int .i64 aH] 198) _ xl).trans HX.out));have HYa:=kA1 (zAb hb4 (zA4 w1 (.cells #[.int .i64 aL,.int .i64 aH] 198)));have hbwa:=hbw'.trans (hb4.mono hbw'.size);obtain⟨⟨r0,r1,r2,r3,r4,r5⟩,_,xl4⟩:=zA9 HXa.out;go_wp2_with (first
  | (go_at_call 104;(with_reducible refine (hin _).mono ?_);rintro e wq ⟨rfl,hq⟩;subst wq)
  | (go_at_call 67;(with_reducible refine (zAt _ _).mono ?_);rintro e wq ⟨rfl,hq⟩;subst wq)
  | (go_at_call 67;(with_reducible refine (zAd _ _).mono ?_);rintro e wq ⟨rfl,hq⟩;subst wq))
 refine (hU _).mono ?_;rintro e w5 ⟨rfl,hb5⟩;have hbw5:=hbwa.trans (hb5.mono hbwa.size);go_wp2_with (first
  | (go_at_call 104;(with_reducible refine (hin _).mono ?_);rintro e wq ⟨rfl,hq⟩;subst wq)
  | (go_at_call 67;(with_reducible refine (zAt _ _).mono ?_);rintro e wq ⟨rfl,hq⟩;subst wq)
  | (go_at_call 67;(with_reducible refine (zAd _ _).mono ?_);rintro e wq ⟨rfl,hq⟩;subst wq))
 exact⟨rfl,hbw5,.inr ⟨kCW,rfl⟩⟩
theorem look_lit_unit (x:S31) (v5:Value) (w:World) (A:Option Addr) (c:Nat) (hv5:v5=.slice A x.f4.length c) (h0:0≤x.f0) (h1:x.f0≤14) (hlo:zBh x.f0≤x.f4.length) (hhi:(x.f4.length:Int)≤zBj x.f0)
  (hop:x.f0=0) (hS:Start w) (hs1:x.f1.f0.size≤9223372036854775807) (hs2:x.f1.f1.size≤9223372036854775807) (hm:chkR x.f1=0) (hp:0<x.f1.f0.size) (hneg:(((x.f1.f0[0]'hp).toNat:Int)==45)=false) (hs3:x.f2.size<9223372036854775807) (hne:x.f2≠⟨#[]⟩) (hub:zCB x.f2=true) (n:Int) (hN:Hid (n=if x.f3<zAL x.f0∨zAM x.f0<x.f3 then 2 else 0)):Calls Tryz.prog 102 #[exV x v5] w (zE7 n w):=by
 obtain⟨op,num,name,size,xs⟩:=x;subst hv5;simp only at *;have hin:=zBH op 0 14;rw[kA5 h0,kA5 h1] at hin;have l1:decide ((xs.length:Int)<zBh op)=false:=kA6 kCW;have l2:decide (zBj op<(xs.length:Int))=false:=kA6 kCW;have hz:=zEc op;have E0:=zDa;have E9:=zD9;have E99:=zCk;have hA:=zAJ op;have hZ:=zBr op;have hin2:=zBH size (zAL op) (zAM op);obtain⟨nu,de⟩:=num;simp only at *;subst hop;have hC:=fun w hS=>zBn nu de hs1 hs2 w hS
 rw[hm] at hC;clear hm;have hU:=fun w=>unit_any name hs3 w
 rw[hub] at hU;have hsome:name.toList.isEmpty=false:=by
  cases h:name.toList with
  | nil=>exact absurd (str_nil h) hne
  | cons _ _=>rfl
 generalize zBh 0=aL at *;generalize zBj 0=aH at *;generalize zAL 0=sL at *;generalize zAM 0=sH at *;clear h0 h1 hlo hhi hne hub;unfold exV;simp only;go_enter Tryz.func102,Tryz.ntmps102;go_wp2_with (first
  | (go_at_call 104;(with_reducible refine (hin _).mono ?_);rintro e wq ⟨rfl,hq⟩;subst wq)
  | (go_at_call 67;(with_reducible refine (zAt _ _).mono ?_);rintro e wq ⟨rfl,hq⟩;subst wq)
  | (go_at_call 67;(with_reducible refine (zAd _ _).mono ?_);rintro e wq ⟨rfl,hq⟩;subst wq))
 refine (hA _).mono ?_;rintro e w1 ⟨rfl,hb1⟩;have hx1:=zAb hb1 (zA4 w (.cells #[.int .i64 0,.string nu,.string de,.string name,.int .i64 size,.slice A xs.length c] 31));obtain⟨⟨q0,q1,q2,q3,q4,q5⟩,_,xl⟩:=zA9 hx1;have hbw:Below w.heap.size w w1:=((kA3 _ w).alloc (kA2 _) _).trans (hb1.mono kCY);have hbw':=hbw.alloc hbw.size (.cells #[.int .i64 aL,.int .i64 aH] 198);have HX:=kA1 hx1;clear hx1;go_wp2_with (first
  | (go_at_call 104;(with_reducible refine (hin _).mono ?_);rintro e wq ⟨rfl,hq⟩;subst wq)
  | (go_at_call 67;(with_reducible refine (zAt _ _).mono ?_);rintro e wq ⟨rfl,hq⟩;subst wq)
  | (go_at_call 67;(with_reducible refine (zAd _ _).mono ?_);rintro e wq ⟨rfl,hq⟩;subst wq))
 refine (hC _ (hS.below hbw')).mono ?_;rintro e w4 ⟨rfl,hb4⟩;have HXa:=kA1 (zAb hb4 ((kA4 w1 (.cells #[.int .i64 aL,.int .i64 aH] 198) _ xl).trans HX.out));have HYa:=kA1 (zAb hb4 (zA4 w1 (.cells #[.int .i64 aL,.int .i64 aH] 198)));have hbwa:=hbw'.trans (hb4.mono hbw'.size);obtain⟨⟨r0,r1,r2,r3,r4,r5⟩,_,xl4⟩:=zA9 HXa.out;go_wp2_with (first
  | (go_at_call 104;(with_reducible refine (hin _).mono ?_);rintro e wq ⟨rfl,hq⟩;subst wq)
  | (go_at_call 67;(with_reducible refine (zAt _ _).mono ?_);rintro e wq ⟨rfl,hq⟩;subst wq)
  | (go_at_call 67;(with_reducible refine (zAd _ _).mono ?_);rintro e wq ⟨rfl,hq⟩;subst wq))
 refine (hU _).mono ?_;rintro e w5 ⟨rfl,hb5⟩;have HXb:=kA1 (zAb hb5 HXa.out);have HYb:=kA1 (zAb hb5 HYa.out);have hbwb:=hbwa.trans (hb5.mono hbwa.size);obtain⟨⟨s0,s1,s2,s3,s4,s5⟩,_,xl5⟩:=zA9 HXb.out;clear r0 r1 r2 r3 r4 r5 HXa HYa;go_wp2_with (first
  | (go_at_call 104;(with_reducible refine (hin _).mono ?_);rintro e wq ⟨rfl,hq⟩;subst wq)
  | (go_at_call 67;(with_reducible refine (zAt _ _).mono ?_);rintro e wq ⟨rfl,hq⟩;subst wq)
  | (go_at_call 67;(with_reducible refine (zAd _ _).mono ?_);rintro e wq ⟨rfl,hq⟩;subst wq))
 refine (hZ _).mono ?_;rintro e w2 ⟨rfl,hb2⟩;have hx2:=zAb hb2 HXb.out;have hy2:=zAb hb2 HYb.out;have hbw2:=hbwb.trans (hb2.mono hbwb.size);have hw1:=hbw.size;obtain⟨⟨p0,p1,p2,p3,p4,p5⟩,_,xl2⟩:=zA9 hx2;have y0:=zA1 hy2 0;have y1:=zA1 hy2 1;have z0:=zA2 hy2 0;have z1:=zA2 hy2 1;have yl:=zA5 hy2;have hneq:=kB1 xl;clear hx2 hy2 HX hb1 hb2 hb4 hb5 s0 s1 s2 s3 s4 s5;by_cases hsz:size<sL∨sH<size
 ·have hn:n=2:=by rw[hN.out,kAb hsz]
  have hsb:(decide (sL≤size)&&decide (size≤sH))=false:=by
   rw[kB9];rcases hsz with h | h
   ·exact .inl (kA6 kCW)
   ·exact .inr (kA6 kCW)
  rw[hsb] at hin2;subst hn;clear hsb;rcases hz with⟨rfl,rfl⟩ | ⟨rfl,rfl⟩ | ⟨rfl,rfl⟩
  ·have hs:(size==0)=false:=zAA kCW;have hs':(size != 0)=true:=by rw[bne,hs];rfl
   clear hsz;go_wp2_with (first
    | (go_at_call 104;(with_reducible refine (hin2 _).mono ?_);rintro e wq ⟨rfl,hq⟩;subst wq)
    | (go_at_call 67;(with_reducible refine (zAt _ _).mono ?_);rintro e wq ⟨rfl,hq⟩;subst wq)
    | (go_at_call 67;(with_reducible refine (zAd _ _).mono ?_);rintro e wq ⟨rfl,hq⟩;subst wq))
   exact⟨rfl,(hbw2.setCell (p:=⟨w1.heap.size,0,none⟩) kCZ _).setCell (p:=⟨w1.heap.size,1,none⟩) kCZ _,.inr ⟨kCW,rfl⟩⟩
  all_goals
   clear hsz;go_wp2_with (first
    | (go_at_call 104;(with_reducible refine (hin2 _).mono ?_);rintro e wq ⟨rfl,hq⟩;subst wq)
    | (go_at_call 67;(with_reducible refine (zAt _ _).mono ?_);rintro e wq ⟨rfl,hq⟩;subst wq)
    | (go_at_call 67;(with_reducible refine (zAd _ _).mono ?_);rintro e wq ⟨rfl,hq⟩;subst wq))
   exact⟨rfl,(hbw2.setCell (p:=⟨w1.heap.size,0,none⟩) kCZ _).setCell (p:=⟨w1.heap.size,1,none⟩) kCZ _,.inr ⟨kCW,rfl⟩⟩
 ·have hn:n=0:=by rw[hN.out,kAa hsz]
  rw[kA5 (show sL≤size by omega),kA5 (show size≤sH by omega)] at hin2;subst hn;rcases hz with⟨rfl,rfl⟩ | ⟨rfl,rfl⟩ | ⟨rfl,rfl⟩
  ·have hs:(size==0)=true:=by rw[kAA];omega
   have hs':(size != 0)=false:=by rw[bne,hs];rfl
   clear hsz;go_wp2_with (first
    | (go_at_call 104;(with_reducible refine (hin2 _).mono ?_);rintro e wq ⟨rfl,hq⟩;subst wq)
    | (go_at_call 67;(with_reducible refine (zAt _ _).mono ?_);rintro e wq ⟨rfl,hq⟩;subst wq)
    | (go_at_call 67;(with_reducible refine (zAd _ _).mono ?_);rintro e wq ⟨rfl,hq⟩;subst wq))
   exact kBc (kAX rfl _ _ _) rfl ⟨(hbw2.setCell (p:=⟨w1.heap.size,0,none⟩) kCZ _).setCell (p:=⟨w1.heap.size,1,none⟩) kCZ _,.inl ⟨rfl,rfl⟩⟩
  all_goals
   clear hsz;go_wp2_with (first
    | (go_at_call 104;(with_reducible refine (hin2 _).mono ?_);rintro e wq ⟨rfl,hq⟩;subst wq)
    | (go_at_call 67;(with_reducible refine (zAt _ _).mono ?_);rintro e wq ⟨rfl,hq⟩;subst wq)
    | (go_at_call 67;(with_reducible refine (zAd _ _).mono ?_);rintro e wq ⟨rfl,hq⟩;subst wq))
   exact kBc (kAX rfl _ _ _) rfl ⟨(hbw2.setCell (p:=⟨w1.heap.size,0,none⟩) kCZ _).setCell (p:=⟨w1.heap.size,1,none⟩) kCZ _,.inl ⟨rfl,rfl⟩⟩
theorem look_lit_plain (x:S31) (v5:Value) (w:World) (A:Option Addr) (c:Nat) (hv5:v5=.slice A x.f4.length c) (h0:0≤x.f0) (h1:x.f0≤14) (hlo:zBh x.f0≤x.f4.length) (hhi:(x.f4.length:Int)≤zBj x.f0)
  (hop:x.f0=0) (hS:Start w) (hs1:x.f1.f0.size≤9223372036854775807) (hs2:x.f1.f1.size≤9223372036854775807) (hm:chkR x.f1=0) (hp:0<x.f1.f0.size) (hneg:(((x.f1.f0[0]'hp).toNat:Int)==45)=false) (hne:x.f2=⟨#[]⟩) (n:Int) (hN:Hid (n=if x.f3<zAL x.f0∨zAM x.f0<x.f3 then 2 else 0)):Calls Tryz.prog 102 #[exV x v5] w (zE7 n w):=by
 obtain⟨op,num,name,size,xs⟩:=x;subst hv5;simp only at *;have hin:=zBH op 0 14;rw[kA5 h0,kA5 h1] at hin;have l1:decide ((xs.length:Int)<zBh op)=false:=kA6 kCW;have l2:decide (zBj op<(xs.length:Int))=false:=kA6 kCW;have hz:=zEc op;have E0:=zDa;have E9:=zD9;have E99:=zCk;have hA:=zAJ op;have hZ:=zBr op;have hin2:=zBH size (zAL op) (zAM op);obtain⟨nu,de⟩:=num;simp only at *;subst hop;have hC:=fun w hS=>zBn nu de hs1 hs2 w hS
 rw[hm] at hC;clear hm;subst hne;generalize zBh 0=aL at *;generalize zBj 0=aH at *;generalize zAL 0=sL at *;generalize zAM 0=sH at *;clear h0 h1 hlo hhi;unfold exV;simp only;go_enter Tryz.func102,Tryz.ntmps102;go_wp2_with (first
  | (go_at_call 104;(with_reducible refine (hin _).mono ?_);rintro e wq ⟨rfl,hq⟩;subst wq)
  | (go_at_call 67;(with_reducible refine (zAt _ _).mono ?_);rintro e wq ⟨rfl,hq⟩;subst wq)
  | (go_at_call 67;(with_reducible refine (zAd _ _).mono ?_);rintro e wq ⟨rfl,hq⟩;subst wq))
 refine (hA _).mono ?_;rintro e w1 ⟨rfl,hb1⟩;have hx1:=zAb hb1 (zA4 w (.cells #[.int .i64 0,.string nu,.string de,.string ⟨#[]⟩,.int .i64 size,.slice A xs.length c] 31));obtain⟨⟨q0,q1,q2,q3,q4,q5⟩,_,xl⟩:=zA9 hx1;have hbw:Below w.heap.size w w1:=((kA3 _ w).alloc (kA2 _) _).trans (hb1.mono kCY);have hbw':=hbw.alloc hbw.size (.cells #[.int .i64 aL,.int .i64 aH] 198);have HX:=kA1 hx1;clear hx1;go_wp2_with (first
  | (go_at_call 104;(with_reducible refine (hin _).mono ?_);rintro e wq ⟨rfl,hq⟩;subst wq)
  | (go_at_call 67;(with_reducible refine (zAt _ _).mono ?_);rintro e wq ⟨rfl,hq⟩;subst wq)
  | (go_at_call 67;(with_reducible refine (zAd _ _).mono ?_);rintro e wq ⟨rfl,hq⟩;subst wq))
 refine (hC _ (hS.below hbw')).mono ?_;rintro e w4 ⟨rfl,hb4⟩;have HXa:=kA1 (zAb hb4 ((kA4 w1 (.cells #[.int .i64 aL,.int .i64 aH] 198) _ xl).trans HX.out));have HYa:=kA1 (zAb hb4 (zA4 w1 (.cells #[.int .i64 aL,.int .i64 aH] 198)));have hbwa:=hbw'.trans (hb4.mono hbw'.size);obtain⟨⟨r0,r1,r2,r3,r4,r5⟩,_,xl4⟩:=zA9 HXa.out;go_wp2_with (first
  | (go_at_call 104;(with_reducible refine (hin _).mono ?_);rintro e wq ⟨rfl,hq⟩;subst wq)
  | (go_at_call 67;(with_reducible refine (zAt _ _).mono ?_);rintro e wq ⟨rfl,hq⟩;subst wq)
  | (go_at_call 67;(with_reducible refine (zAd _ _).mono ?_);rintro e wq ⟨rfl,hq⟩;subst wq))
 refine (hZ _).mono ?_;rintro e w2 ⟨rfl,hb2⟩;have hx2:=zAb hb2 HXa.out;have hy2:=zAb hb2 HYa.out;have hbw2:=hbwa.trans (hb2.mono hbwa.size);have hw1:=hbw.size;obtain⟨⟨p0,p1,p2,p3,p4,p5⟩,_,xl2⟩:=zA9 hx2;have y0:=zA1 hy2 0;have y1:=zA1 hy2 1;have z0:=zA2 hy2 0;have z1:=zA2 hy2 1;have yl:=zA5 hy2;have hneq:=kB1 xl;clear hx2 hy2 HX hb1 hb2 hb4 r0 r1 r2 r3 r4 r5;by_cases hsz:size<sL∨sH<size
 ·have hn:n=2:=by rw[hN.out,kAb hsz]
  have hsb:(decide (sL≤size)&&decide (size≤sH))=false:=by
   rw[kB9];rcases hsz with h | h
   ·exact .inl (kA6 kCW)
   ·exact .inr (kA6 kCW)
  rw[hsb] at hin2;subst hn;clear hsb;rcases hz with⟨rfl,rfl⟩ | ⟨rfl,rfl⟩ | ⟨rfl,rfl⟩
  ·have hs:(size==0)=false:=zAA kCW;have hs':(size != 0)=true:=by rw[bne,hs];rfl
   clear hsz;go_wp2_with (first
    | (go_at_call 104;(with_reducible refine (hin2 _).mono ?_);rintro e wq ⟨rfl,hq⟩;subst wq)
    | (go_at_call 67;(with_reducible refine (zAt _ _).mono ?_);rintro e wq ⟨rfl,hq⟩;subst wq)
    | (go_at_call 67;(with_reducible refine (zAd _ _).mono ?_);rintro e wq ⟨rfl,hq⟩;subst wq))
   exact⟨rfl,(hbw2.setCell (p:=⟨w1.heap.size,0,none⟩) kCZ _).setCell (p:=⟨w1.heap.size,1,none⟩) kCZ _,.inr ⟨kCW,rfl⟩⟩
  all_goals
   clear hsz;go_wp2_with (first
    | (go_at_call 104;(with_reducible refine (hin2 _).mono ?_);rintro e wq ⟨rfl,hq⟩;subst wq)
    | (go_at_call 67;(with_reducible refine (zAt _ _).mono ?_);rintro e wq ⟨rfl,hq⟩;subst wq)
    | (go_at_call 67;(with_reducible refine (zAd _ _).mono ?_);rintro e wq ⟨rfl,hq⟩;subst wq))
   exact⟨rfl,(hbw2.setCell (p:=⟨w1.heap.size,0,none⟩) kCZ _).setCell (p:=⟨w1.heap.size,1,none⟩) kCZ _,.inr ⟨kCW,rfl⟩⟩
 ·have hn:n=0:=by rw[hN.out,kAa hsz]
  rw[kA5 (show sL≤size by omega),kA5 (show size≤sH by omega)] at hin2;subst hn;rcases hz with⟨rfl,rfl⟩ | ⟨rfl,rfl⟩ | ⟨rfl,rfl⟩
  ·have hs:(size==0)=true:=by rw[kAA];omega
   have hs':(size != 0)=false:=by rw[bne,hs];rfl
   clear hsz;go_wp2_with (first
    | (go_at_call 104;(with_reducible refine (hin2 _).mono ?_);rintro e wq ⟨rfl,hq⟩;subst wq)
    | (go_at_call 67;(with_reducible refine (zAt _ _).mono ?_);rintro e wq ⟨rfl,hq⟩;subst wq)
    | (go_at_call 67;(with_reducible refine (zAd _ _).mono ?_);rintro e wq ⟨rfl,hq⟩;subst wq))
   exact kBc (kAX rfl _ _ _) rfl ⟨(hbw2.setCell (p:=⟨w1.heap.size,0,none⟩) kCZ _).setCell (p:=⟨w1.heap.size,1,none⟩) kCZ _,.inl ⟨rfl,rfl⟩⟩
  all_goals
   clear hsz;go_wp2_with (first
    | (go_at_call 104;(with_reducible refine (hin2 _).mono ?_);rintro e wq ⟨rfl,hq⟩;subst wq)
    | (go_at_call 67;(with_reducible refine (zAt _ _).mono ?_);rintro e wq ⟨rfl,hq⟩;subst wq)
    | (go_at_call 67;(with_reducible refine (zAd _ _).mono ?_);rintro e wq ⟨rfl,hq⟩;subst wq))
   exact kBc (kAX rfl _ _ _) rfl ⟨(hbw2.setCell (p:=⟨w1.heap.size,0,none⟩) kCZ _).setCell (p:=⟨w1.heap.size,1,none⟩) kCZ _,.inl ⟨rfl,rfl⟩⟩
structure Sz (x:S31):Prop where
 num:x.f1.f0.size≤4611686018427387904
 den:x.f1.f1.size≤4611686018427387904
 name:x.f2.size≤4611686018427387904
theorem chkR_pos {r:S28} (h:chkR r=0):0<r.f0.size:=by
 unfold chkR at h;by_cases h1:zDf r.f0=1∨zDf r.f1=1∨negB r.f1=true∨r.f1=⟨#[48]⟩
 ·rw[kAb h1] at h;cases h
 ·exact form_pos (zFG (fun h2=>h1 (.inl h2)))
theorem look_calls (x:S31) (hsz:Sz x) (v:Value) (w:World) (hv:Vw w x v) (hS:Start w):Calls Tryz.prog 102 #[v] w (zE7 (zFZ x) w):=by
 obtain⟨A,c,rfl,_,_⟩:=hv.out;have k1:=hsz.num;have k2:=hsz.den;have k3:=hsz.name;unfold zFZ;by_cases h1:x.f0<0∨14<x.f0
 ·rw[kAb h1];exact look_out x _ w A c rfl h1
 rw[kAa h1];by_cases h2:(x.f4.length:Int)<zBh x.f0
 ·rw[kAb h2];have:=look_args x _ w A c rfl kCW kCW (.inl h2)
  rwa [kAb h2] at this
 rw[kAa h2];by_cases h3:zBj x.f0<(x.f4.length:Int)
 ·rw[kAb h3];have:=look_args x _ w A c rfl kCW kCW (.inr h3)
  rwa [kAa h2] at this
 rw[kAa h3];unfold midE;by_cases h4:x.f0=0
 ·rw[kAb h4];by_cases h5:chkR x.f1≠0
  ·rw[kAb h5];exact look_lit_chk x _ w A c rfl kCW kCW kCW kCW h4 hS kCW kCW _ rfl h5
  rw[kAa h5];have h5':chkR x.f1=0:=kCW
  have hp:=chkR_pos h5';have hh:=neg_head hp;by_cases h6:negB x.f1.f0=true
  ·rw[kAb h6];exact look_lit_neg x _ w A c rfl kCW kCW kCW kCW h4 hS kCW kCW h5' hp (by rw[hh,h6])
  rw[kAa h6];have h6':negB x.f1.f0=false:=by simpa using h6
  rw[h6'] at hh;unfold tailE badName;rw[kAb h4];by_cases h7:x.f2=⟨#[]⟩
  ·rw[kAa kDA];exact look_lit_plain x _ w A c rfl kCW kCW kCW kCW h4 hS kCW kCW h5' hp hh h7 _ (kA1 rfl)
  ·cases h8:zCB x.f2
   ·rw[kAb kDA];exact look_lit_bad x _ w A c rfl kCW kCW kCW kCW h4 hS kCW kCW h5' hp hh kCW h7 h8
   ·rw[kAa kCY];exact look_lit_unit x _ w A c rfl kCW kCW kCW kCW h4 hS kCW kCW h5' hp hh kCW h7 h8 _ (kA1 rfl)
 rw[kAa h4];by_cases h5:x.f1≠z28
 ·rw[kAb h5];exact look_other_num x _ w A c rfl kCW kCW kCW kCW h4 h5
 rw[kAa h5];have h5':x.f1=z28:=by simpa using h5
 unfold tailE badName;rw[kAa h4];by_cases h6:x.f0=1∨x.f0=10∨x.f0=11∨x.f0=13∨x.f0=14
 ·rw[kAb h6]
  cases h7:zC7 x.f2
  ·rw[kAb kCY];exact look_named_bad x _ w A c rfl kCW kCW kCW kCW h6 h5' kCW h7
  ·rw[kAa kCY];exact zFY x _ w A c rfl kCW kCW kCW kCW h6 h5' kCW h7 _ (kA1 rfl)
 ·rw[kAa h6];by_cases h7:x.f2=⟨#[]⟩
  ·rw[kAa kDA];exact zFX x _ w A c rfl kCW kCW kCW kCW ⟨h4,kCW,kCW,kCW,kCW,kCW⟩ h5' h7 _ (kA1 rfl)
  ·rw[kAb kDA];exact look_other_bad x _ w A c rfl kCW kCW kCW kCW ⟨h4,kCW,kCW,kCW,kCW,kCW⟩ h5' h7
mutual
/-- The first error in an expression that is inside of d others;0 if it has none. -/
noncomputable def zEo:Nat→S31→Int
 | d,⟨a,b,c,e,l⟩=>if 30≤d then 7 else if zFZ ⟨a,b,c,e,l⟩≠0 then zFZ ⟨a,b,c,e,l⟩ else zEn (d+1) l
noncomputable def zEn:Nat→List S31→Int
 | _,[]=>0
 | d,x :: l=>if zEo d x≠0 then zEo d x else zEn d l
end
theorem walkE_eq (d:Nat) (x:S31):zEo d x=if 30≤d then 7 else if zFZ x≠0 then zFZ x else zEn (d+1) x.f4:=by cases x;rw[zEo]
theorem walkL_drop (d:Nat) (l:List S31) (j:Nat) (h:j<l.length):zEn d (l.drop j)=if zEo d l[j]≠0 then zEo d l[j] else zEn d (l.drop (j+1)):=by
 rw[kAn h,zEn]
mutual
/-- The strings of an expression,and of all in it,are no great ones. -/
def szB:S31→Bool
 | ⟨_,b,c,_,l⟩=>decide (b.f0.size≤4611686018427387904)&&decide (b.f1.size≤4611686018427387904)&&decide (c.size≤4611686018427387904)&&szL l
def szL:List S31→Bool
 | []=>true
 | x :: l=>szB x&&szL l
end
theorem szB_eq (x:S31):szB x=(decide (x.f1.f0.size≤4611686018427387904)&&decide (x.f1.f1.size≤4611686018427387904)&&decide (x.f2.size≤4611686018427387904)&&szL x.f4):=by cases x;rfl
theorem szL_mem {l:List S31} (h:szL l=true) {x:S31} (hx:x∈l):szB x=true:=by
 induction l with
 | nil=>simp at hx
 | cons y l ih =>
  simp only[szL,kAx] at h;rcases kAU.1 hx with rfl | hx
  ·exact h.1
  ·exact ih h.2 hx
theorem sz_of {x:S31} (h:szB x=true):Sz x∧szL x.f4=true:=by
 rw[szB_eq] at h;simp only[kAx,kB6] at h;exact⟨⟨h.1.1.1,h.1.1.2,h.1.2⟩,h.2⟩
theorem walk_calls:∀(n:Nat) (x:S31) (d:Nat),zAI x≤n→d≤30→zAm x≤4611686018427387904→szB x=true→∀(v:Value) (w:World),Vw w x v→Start w →
  Calls Tryz.prog 64 #[v,.int .i64 d] w (zE7 (zEo d x) w):=by
 intro n
 induction n with
 | zero=>intro x d h;rw[zB3] at h;omega
 | succ n ih =>
  intro x d hd hd30 hn hsz v w hv hS;obtain⟨hz1,hz2⟩:=sz_of hsz;have hlook:=fun w' (hb:Below w.heap.size w w') (v':Value) (hv':Vw w' x v')=>look_calls x hz1 v' w' hv' (hS.below hb)
  obtain⟨A,c,rfl,hc1,hc2⟩:=hv.out;rw[zB3] at hd;rw[zBv] at hn;rw[walkE_eq];obtain⟨lk,hlk⟩:∃k,k=zFZ x:=⟨_,rfl⟩;rw[← hlk] at hlook⊢;replace hlk:=kA1 hlk;have hrec:∀(j:Nat) (hj:j<x.f4.length),d<30→∀v w',Below w.heap.size w w'→Vw w' x.f4[j] v→Calls Tryz.prog 64 #[v,.int .i64 (d+1:Nat)] w' (zE7 (zEo (d+1) x.f4[j]) w'):=by
   intro j hj hdd v w' hb hv';have h1:=zCg (kAR hj);have h2:=zF3 (kAR hj);exact ih _ _ kCW kCW kCW (szL_mem hz2 (kAR hj)) v w' hv' (hS.below hb)
  have hlen:=zDy x.f4;have hv0:=hv;have hdrop:=walkL_drop (d+1) x.f4;obtain⟨f0,f1,f2,f3,xs⟩:=x;simp only at *;clear ih hv hz1 hz2 hsz hS;unfold exV at *;simp only at *;have HR:=kA1 hrec;have HL:=kA1 hlook;have HV:=kA1 hv0;have HC:=kA1 hc2;have HD:=kA1 hdrop;clear hrec hlook hv0 hc2 hdrop;have hb0:=(kA3 _ w).alloc (kA2 _) (.cells #[.int .i64 f0,.string f1.f0,.string f1.f1,.string f2,.int .i64 f3,.slice A xs.length c] 31);by_cases h30:30≤d
  ·rw[kAb h30];have hdl:decide (30≤(d:Int))=true:=kA5 kCW;clear h30;go_enter Tryz.func64,Tryz.ntmps64;go_wp2_with (go_at_call 67;(with_reducible refine (zAd _ _).mono ?_);rintro e wq ⟨rfl,hq⟩;subst wq);exact⟨rfl,hb0,.inr ⟨kCW,rfl⟩⟩
  rw[kAa h30];have hdl:decide (30≤(d:Int))=false:=kA6 kCW;obtain⟨R,hR⟩:∃R,R=if lk≠0 then lk else zEn (d+1) xs:=⟨_,rfl⟩
  rw[← hR];replace hR:=kA1 hR;go_enter Tryz.func64,Tryz.ntmps64;go_wp2_with (go_at_call 67;(with_reducible refine (zAt _ _).mono ?_);rintro e wq ⟨rfl,hq⟩;subst wq);refine (HL.out _ hb0 _ (HV.out.below ((kA3 _ w).alloc (kA2 _) _))).mono ?_;rintro e w1 ⟨hb1,hcase⟩;have hbw:=hb0.trans (hb1.mono kCY);rcases hcase.symm with⟨h0,he⟩ | ⟨h0,rfl⟩
  ·have hR2:Hid (R=lk):=kA1 (by rw[hR.out,kAb h0]);unfold zBy at he;subst he;replace h0:=kA1 h0;clear hR;go_wp2;exact⟨rfl,hbw,.inr ⟨by rw[hR2.out];exact h0.out,by rw[hR2.out];rfl⟩⟩
  replace hR:Hid (R=zEn (d+1) xs):=kA1 (by rw[hR.out,kAa kCW]);clear h0;have hx1:=zAb hb1 (zA4 w (.cells #[.int .i64 f0,.string f1.f0,.string f1.f1,.string f2,.int .i64 f3,.slice A xs.length c] 31));obtain⟨⟨q0,q1,q2,q3,q4,q5⟩,_,xl⟩:=zA9 hx1;clear hx1 hb1;go_wp2;go_loopg [14] xs.length (fun k i wr=>∃j:Nat,j+k=xs.length∧i=.int .i64 j∧Below w.heap.size w wr∧Hid (R=zEn (d+1) (xs.drop j)))
  case atStart=>exact⟨0,kCW,rfl,hbw,by rw[kBB];exact hR⟩
  case round =>
   clear hbw q0 q1 q2 q3 q4 q5 xl hR;obtain⟨j,hj,rfl,hat,HRj⟩:=hrel;by_cases hjl:j<xs.length
   ·obtain⟨ad,A5,c5,rfl,q0,q1,q2,q3,q4,q5,hvw⟩:=zAs (Kd.C_below HC.out hat) j hjl;have hr:=HR.out j hjl kCW;have hdj:=HD.out j hjl;generalize xs[j]=y at *;have Hvw:=kA1 hvw;have hd1:((d+1:Nat):Int)=(d:Int)+1:=kCW
    rw[hd1] at hr;obtain⟨m,hm⟩:∃m,m=zEo (d+1) y:=⟨_,rfl⟩;rw[← hm] at hr hdj;rw[hdj] at HRj;clear hvw hm hdj;go_wp2_with fail;refine (hr _ _ (hat.alloc hat.size _) (Hvw.out.below ((kA3 _ _).alloc (kA2 _) _))).mono ?_;rintro e w2 ⟨hb2,hcase⟩;have hat2:Below w.heap.size w w2:=(hat.alloc hat.size _).trans (hb2.mono (by simp;have:=hat.size;omega));clear hr;rcases hcase with⟨h0,rfl⟩ | ⟨h0,he⟩
    ·have HRj':Hid (R=zEn (d+1) (xs.drop (j+1))):=kA1 (by rw[HRj.out,kAa kCW]);clear h0 HRj;go_wp2;go_roundg (gk-1)
     case measure=>omega
     case rel=>exact⟨j+1,zCN hj hjl,by go_num,hat2,HRj'⟩
    ·have HRj':Hid (R=m):=kA1 (by rw[HRj.out,kAb h0]);unfold zBy at he;subst he;replace h0:=kA1 h0;clear HRj;go_wp2;exact⟨rfl,hat2,.inr ⟨by rw[HRj'.out];exact h0.out,by rw[HRj'.out];rfl⟩⟩
   ·obtain rfl:j=xs.length:=kCW
    have HRj':Hid (R=0):=kA1 (by rw[HRj.out,kCO,zEn]);go_wp2;exact kBc (kAX rfl _ _ _) rfl ⟨hat,.inl ⟨HRj'.out,rfl⟩⟩
noncomputable def chkE (x:S31):Int:=zEo 0 x
theorem zGq (x:S31) (hn:zAm x≤4611686018427387904) (hsz:szB x=true) (v:Value) (w:World) (hv:Vw w x v) (hS:Start w) :
  Calls Tryz.prog 27 #[v] w fun e w'=>e=.returned (.int .i64 (chkE x))∧Below w.heap.size w w':=by
 obtain⟨A,c,rfl,hc1,hc2⟩:=hv.out;have hmf:∀(fn:Fn) (first cap:Array Value) (w:World),(Instr.makeFunc fn first cap).run Tryz.prog w=.ok (.func fn first cap) w:=fun _ _ _ _=>rfl
 have hb0:∀o,Below w.heap.size w ((w.alloc o).alloc (.cells #[.int .i64 0] 36)):=fun o=>((kA3 _ w).alloc (kA2 _) _).alloc kCY _
 have hw:=fun w' (hb:Below w.heap.size w w')=>walk_calls _ x 0 (kA2 _) kCW hn hsz _ w' (hv.below hb) (hS.below hb)
 change ∀w',Below w.heap.size w w'→Calls Tryz.prog 64 #[_,.int .i64 0] w' (zE7 (chkE x) w') at hw;have hr0:∀o,((w.alloc o).alloc (.cells #[.int .i64 0] 36)).heap[w.heap.size+1]?=some (.cells #[.int .i64 0] 36 (0,0)):=fun o=>by have:=zA4 (w.alloc o) (.cells #[.int .i64 0] 36);rwa [kAC] at this
 generalize chkE x=n at *;have hge:=fun o=>(hS.below (hb0 o)).err
 obtain⟨f0,f1,f2,f3,xs⟩:=x;simp only at *;unfold exV at *;simp only at *;have HW:=kA1 hw;have HG:=kA1 hge;clear hw hv hS hc2 hge;go_enter_defers Tryz.func27,Tryz.ntmps27;go_wp2_with fail;refine (HW.out _ (hb0 _)).mono ?_;rintro e w1 ⟨hb1,hcase⟩;have hr1:=zAb hb1 (hr0 _);have hg1:=zA0 hb1 (HG.out _);have hbw:=(hb0 (.cells #[.int .i64 f0,.string f1.f0,.string f1.f1,.string f2,.int .i64 f3,.slice A xs.length c] 31)).trans (hb1.mono kCZ);rcases hcase with⟨h0,rfl⟩ | ⟨h0,he⟩
 ·subst h0;have c1:=zA1 hr1 0;have f1':=zA2 hr1 0;go_wp2;have hr2:=zAa hr1 0 (.int .i64 0);have hbw2:=hbw.setCell (p:=⟨w.heap.size+1,0,none⟩) kCY (.int .i64 0);generalize w1.setCell ⟨w.heap.size+1,0,none⟩ (.int .i64 0)=w2 at *;refine kBT (f:=62) (args:=#[.pointer (some ⟨w.heap.size+1,0,none⟩)]) kCY kDc ?_;refine (catch62_idle (w.heap.size+1) (.int .i64 0) w2 hr2).mono ?_;rintro e u w3 ⟨rfl,rfl,hw3⟩;have c4:w3.cell? ⟨w.heap.size+1,0,none⟩=some (.int .i64 0):=by rw[hw3];exact zA1 (zAa hr2 0 (.int .i64 0)) 0
  have hfin:Below w.heap.size w w3:=by rw[hw3];exact hbw2.setCell (p:=⟨w.heap.size+1,0,none⟩) kCY _
  simp[Leaves,settle,results,Tryz.results27,go_sem,c4,hfin]
 ·unfold zBy at he;subst he;clear h0;go_wp2;refine kBT (f:=62) (args:=#[.pointer (some ⟨w.heap.size+1,0,none⟩)]) kCY kDc ?_;refine (catch62_hit (w.heap.size+1) n (.int .i64 0) [] w1 hr1 hg1).mono ?_;rintro e u w3 ⟨rfl,rfl,hs3,hg3⟩;have c4:w3.cell? ⟨w.heap.size+1,0,none⟩=some (.int .i64 n):=zA1 hs3 0;have hfin:Below w.heap.size w w3:=hbw.grown hg3 hbw.size (fun j e=>by injection e with e;omega);simp[Leaves,settle,results,Tryz.results27,go_sem,c4,hfin]
end Go.Proofs.YtjaobihcdkjmbaaGreatDoor
end
section
namespace Go.Proofs.YtjaobihcdkjmbaaGreatDoor
open Go.RowKit Go.Maps Go.WideShapes Go.Proofs.YtjaobihcdkjmbaaGreatDoorW.PrintWords Go.Proofs.YtjaobihcdkjmbaaGreatDoor.PReadTokens
theorem repl_all (B:S31→Prop) (p:Int→S28→ByteArray→Int→Nat→Prop) (hB:∀x,B x↔(p x.f0 x.f1 x.f2 x.f3 x.f4.length∧∀a∈x.f4,B a)) (name:ByteArray) (y:S31) (T:DataW Unit) (hy:B y) :
  ∀(n:Nat) (x z:S31),zAI x≤n→B x→replS name y T x=some z→B z:=by
 intro n
 induction n with
 | zero=>intro x z h;rw[zB3] at h;omega
 | succ n ih =>
  intro x z hd hx h;rw[zB3] at hd;rcases replS_cases h with⟨_,_,rfl⟩ | ⟨_,l',hl,rfl⟩
  ·exact hy
  ·have key:∀(l l':List S31) (i:Nat),(∀a∈l,zAI a≤n∧B a)→zEy name y T x.f0 x.f2 i l=some l'→l'.length=l.length∧∀b∈l',B b:=by
    intro l
    induction l with
    | nil=>intro l' i _ h;rw[replL_nil] at h;injection h with h;subst h;exact⟨rfl,fun b hb=>by cases hb⟩
    | cons a l ih2 =>
     intro l' i hall h;obtain⟨b,r,rfl,hb,hr⟩:=replL_cons h;obtain⟨h1,h2⟩:=ih2 r (i+1) (fun c hc=>hall c (kB4 _ hc)) hr;obtain⟨da,ba⟩:=hall a (kB8 ..);refine⟨by simp[h1],fun c hc=>?_⟩;rcases kAU.1 hc with rfl | hc
     ·rcases replOne_cases hb with⟨_,_,rfl⟩ | ⟨_,_,h5⟩
      ·exact ba
      ·exact ih a c da ba h5
     ·exact h2 c hc
   obtain⟨h1,h2⟩:=(hB x).1 hx;obtain⟨k1,k2⟩:=key x.f4 l' 0 (fun a ha=>⟨by have:=zCg ha;omega,h2 a ha⟩) hl;exact (hB _).2 ⟨by simp only;rw[k1];exact h1,k2⟩
inductive OkX:S31→Prop
 | mk (x:S31) (h:zFZ x=0) (hl:∀a∈x.f4,OkX a):OkX x
theorem walkL_zero (d:Nat):∀l:List S31,zEn d l=0↔∀a∈l,zEo d a=0
 | []=>by rw[zEn];simp
 | a :: l=>by
  rw[zEn];by_cases h:zEo d a=0
  ·rw[kAa (by simp[h]),walkL_zero d l];simp[h]
  ·rw[kAb h];simp[h]
theorem depthL_le {l:List S31} {m:Nat} (h:∀a∈l,zAI a≤m):zBl l≤m:=by
 induction l with
 | nil=>simp[zBl]
 | cons a l ih =>
  have h1:=h a (kB8 ..);have h2:=ih (fun b hb=>h b (kB4 _ hb));rw[zBl];omega
theorem walk_iff:∀(n:Nat) (x:S31) (d:Nat),zAI x≤n→(zEo d x=0↔(OkX x∧d+zAI x≤30)):=by
 intro n
 induction n with
 | zero=>intro x d h;rw[zB3] at h;omega
 | succ n ih =>
  intro x d hd;rw[zB3] at hd;have hi:∀a∈x.f4,(zEo (d+1) a=0↔(OkX a∧d+1+zAI a≤30)):=fun a ha=>ih a (d+1) (by have:=zCg ha;omega)
  rw[walkE_eq];by_cases h30:30≤d
  ·rw[kAb h30];constructor
   ·intro h;omega
   ·rintro⟨_,h⟩;rw[zB3] at h;omega
  ·rw[kAa h30];by_cases hl:zFZ x=0
   ·rw[kAa (by simp[hl]),walkL_zero];constructor
    ·intro h;refine⟨⟨_,hl,fun a ha=>((hi a ha).1 (h a ha)).1⟩,?_⟩;have:=depthL_le (m:=30-(d+1)) (fun a ha=>by have:=((hi a ha).1 (h a ha)).2;omega);rw[zB3];omega
    ·rintro⟨⟨_,_,hok⟩,hdd⟩ a ha;refine (hi a ha).2 ⟨hok a ha,?_⟩;have:=zCg ha;rw[zB3] at hdd;omega
   ·rw[kAb hl];constructor
    ·intro h;exact absurd h hl
    ·rintro⟨⟨_,h,_⟩,_⟩;exact absurd h hl
theorem chk_iff (x:S31):chkE x=0↔(OkX x∧zAI x≤30):=by
 have:=walk_iff _ x 0 (kA2 _);rw[kAL] at this;exact this
end Go.Proofs.YtjaobihcdkjmbaaGreatDoor
end
section
namespace Go.Proofs.YtjaobihcdkjmbaaGreatDoor
open Go.RowKit Go.Proofs.YtjaobihcdkjmbaaGreatDoorW.PrintWords Go.Proofs.YtjaobihcdkjmbaaGreatDoor.PReadTokens
def nodeG (op:Int) (num:S28) (name:ByteArray) (size:Int) (k:Nat):Prop :=
 (op=0∧chkR num=0∧negB num.f0=false∧(name=eB∨zCB name=true)∧size=0∧k=0) ∨
 (op=1∧num=z28∧zC7 name=true∧size=0∧k=0)∨(op=2∧num=z28∧name=eB∧size=0∧k=1) ∨
 ((op=3∨op=4∨op=5∨op=6∨op=9)∧num=z28∧name=eB∧size=0∧k=2)∨(op=7∧num=z28∧name=eB∧(-9≤size∧size≤9)∧k=1) ∨
 (op=8∧num=z28∧name=eB∧size=0∧(1≤k∧k≤8))∨((op=10∨op=11)∧num=z28∧zC7 name=true∧(1≤size∧size≤99)∧k=1) ∨
 (op=12∧num=z28∧name=eB∧size=0∧k=4)∨(op=13∧num=z28∧zC7 name=true∧size=0∧k=2)∨(op=14∧num=z28∧zC7 name=true∧size=0∧k≤8)
theorem look_node {op:Int} {num:S28} {name:ByteArray} {size:Int} {l:List S31} (h:nodeG op num name size l.length):zFZ ⟨op,num,name,size,l⟩=0:=by
 unfold zFZ midE tailE badName;simp only;generalize l.length=k at *;rcases h with⟨rfl,h1,h2,h3,rfl,rfl⟩ | ⟨rfl,rfl,hn,rfl,rfl⟩ | ⟨rfl,rfl,rfl,rfl,rfl⟩ | ⟨ho,rfl,rfl,rfl,rfl⟩ | ⟨rfl,rfl,rfl,⟨hs0,hs1⟩,rfl⟩ | ⟨rfl,rfl,rfl,rfl,hk0,hk1⟩ | ⟨ho,rfl,hn,⟨hs0,hs1⟩,rfl⟩ | ⟨rfl,rfl,rfl,rfl,rfl⟩ | ⟨rfl,rfl,hn,rfl,rfl⟩ | ⟨rfl,rfl,hn,rfl,hk⟩
 ·rw[h1,h2];rcases h3 with rfl | h3
  ·simp[zBh,zBj,zAL,zAM]
  ·simp[zBh,zBj,zAL,zAM,h3]
 ·simp[zBh,zBj,zAL,zAM,hn]
 ·simp[zBh,zBj,zAL,zAM]
 ·rcases ho with rfl | rfl | rfl | rfl | rfl<;>simp[zBh,zBj,zAL,zAM]
 ·simp[zBh,zBj,zAL,zAM];omega
 ·simp[zBh,zBj,zAL,zAM];omega
 ·rcases ho with rfl | rfl<;>(simp[zBh,zBj,zAL,zAM,hn];omega)
 ·simp[zBh,zBj,zAL,zAM]
 ·simp[zBh,zBj,zAL,zAM,hn]
 ·simp[zBh,zBj,zAL,zAM,hn];omega
theorem ok_of {op:Int} {num:S28} {name:ByteArray} {size:Int} {l:List S31} (h:nodeG op num name size l.length) (hl:∀a∈l,OkX a):OkX ⟨op,num,name,size,l⟩:=⟨_,look_node h,hl⟩
end Go.Proofs.YtjaobihcdkjmbaaGreatDoor
end
section
namespace Go.Proofs.YtjaobihcdkjmbaaGreatDoor
open Go.RowKit Go.Maps Go.Sort Go.Proofs.YtjaobihcdkjmbaaGreatDoorW.PrintWords Go.Proofs.YtjaobihcdkjmbaaGreatDoor.PReadTokens
theorem zFc (x:S31) (h:chkE x=0) (hn:zAm x≤4611686018427387904) (hsz:szB x=true) (v:Value) (w:World) (hv:Vw w x v) (hS:Start w) :
  Calls Tryz.prog 27 #[v] w fun e w'=>e=.returned (.int .i64 0)∧Below w.heap.size w w':=by
 have:=zGq x hn hsz v w hv hS
 rwa [h] at this
theorem Free_calls (x:S31) (hc0:chkE x=0) (hn:zAm x≤1000000000) (hsz:szB x=true) (hsm:smallB x=true) (v:Value) (w:World) (hv:Vw w x v) (hS:Start w) :
  Calls Tryz.prog 33 #[v] w fun e w'=>∃(u:Value) (ss:List (List UInt8)) (base:Nat),e=.returned (.tuple #[u,.int .i64 0])∧ss.Perm (strKeys (zEK x))∧w'.ownsRow base 9 1 u ss.length ((ss.mergeSort (fun x y=>decide (x≤y))).map encStr)∧w.heap.size≤base∧Below w.heap.size w w':=by
 obtain⟨A,c,rfl,hc1,hc2⟩:=hv.out;have hck:=fun w' (hb:Below w.heap.size w w')=>zFc x hc0 kCW hsz _ w' (hv.below hb) (hS.below hb)
 have hfr:=fun w' (hb:Below w.heap.size w w')=>freeG_calls _ x (kA2 _) kCW hsm _ w' (hv.below hb)
 generalize zEK x=D at *;generalize zAm x=nn at *;obtain⟨f0,f1,f2,f3,xs⟩:=x;simp only at *;unfold exV at *;simp only at *;have HC:=kA1 hck;have HT:=kA1 hfr;clear hck hfr hv hS hc2 hc0 hsz hsm;go_enter Tryz.func33,Tryz.ntmps33;go_wp2_with fail;have hb0:=(kA3 _ w).alloc (kA2 _) (.cells #[.int .i64 f0,.string f1.f0,.string f1.f1,.string f2,.int .i64 f3,.slice A xs.length c] 31);have hbl:=zA4 w (.cells #[.int .i64 f0,.string f1.f0,.string f1.f1,.string f2,.int .i64 f3,.slice A xs.length c] 31);refine (HC.out _ hb0).mono ?_;rintro e w1 ⟨rfl,hb1⟩;have hbl1:=zAb hb1 hbl;obtain⟨⟨q0,q1,q2,q3,q4,q5⟩,_,xl⟩:=zA9 hbl1;have hbw:=hb0.trans (hb1.mono kCY);clear hbl hbl1;go_wp2_with fail;refine (HT.out _ hbw).mono ?_;rintro e w2 ⟨b,rfl,hge,hm,hb2⟩;have hbx:=hbw.trans (hb2.mono hbw.size);have hnm:=names_calls b nn D w2 hm hn;unfold zGp at hnm;have HN:=kA1 hnm;clear hnm hm;go_wp2_with fail;refine HN.out.mono ?_;rintro e w3 ⟨u,ss,rfl,hp,hrow,hnil,hb3⟩;have HP:=kA1 hp;have HR:=kA1 hrow;clear hp hrow hnil;go_wp2;refine kAg (results_tmp2 rfl _ _ _) rfl ⟨u,ss,w2.heap.size+1,rfl,HP.out,HR.out,by have:=hbx.size;omega,hbx.trans (hb3.mono hbx.size)⟩
theorem Size_calls (x:S31) (hc0:chkE x=0) (hn:zAm x≤4611686018427387904) (hsz:szB x=true) (v:Value) (w:World) (hv:Vw w x v) (hS:Start w) :
  Calls Tryz.prog 35 #[v] w fun e w'=>e=.returned (.tuple #[.int .i64 (zAm x),.int .i64 (zAI x),.int .i64 0])∧Below w.heap.size w w':=by
 obtain⟨A,c,rfl,hc1,hc2⟩:=hv.out;have hck:=fun w' (hb:Below w.heap.size w w')=>zFc x hc0 hn hsz _ w' (hv.below hb) (hS.below hb)
 have hdp:=fun w' (hb:Below w.heap.size w w')=>zFb _ x (kA2 _) hn _ w' (hv.below hb)
 generalize zAI x=dd at *;generalize zAm x=nn at *;obtain⟨f0,f1,f2,f3,xs⟩:=x;simp only at *;unfold exV at *;simp only at *;have HC:=kA1 hck;have HT:=kA1 hdp;clear hck hdp hv hS hc2 hc0 hsz;go_enter Tryz.func35,Tryz.ntmps35;go_wp2_with fail;have hb0:=(kA3 _ w).alloc (kA2 _) (.cells #[.int .i64 f0,.string f1.f0,.string f1.f1,.string f2,.int .i64 f3,.slice A xs.length c] 31);have hbl:=zA4 w (.cells #[.int .i64 f0,.string f1.f0,.string f1.f1,.string f2,.int .i64 f3,.slice A xs.length c] 31);refine (HC.out _ hb0).mono ?_;rintro e w1 ⟨rfl,hb1⟩;have hbl1:=zAb hb1 hbl;obtain⟨⟨q0,q1,q2,q3,q4,q5⟩,_,xl⟩:=zA9 hbl1;have hbw:=hb0.trans (hb1.mono kCY);clear hbl hbl1;go_wp2_with fail;refine (HT.out _ hbw).mono ?_;rintro e w2 ⟨rfl,hb2⟩;have hbx:=hbw.trans (hb2.mono hbw.size);go_wp2
 go_quiet (fail)
 go_wp2;refine kAg (results_tmp3 rfl _ _ _) rfl ⟨rfl,?_⟩;have h9:=hbx.alloc hbx.size (.cells #[.int .i64 nn,.int .i64 dd] 100)
 first | exact zA3 h9 _ | exact h9.drew | exact h9
end Go.Proofs.YtjaobihcdkjmbaaGreatDoor
end
section
namespace Go.Proofs.YtjaobihcdkjmbaaGreatDoor
open Go.RowKit Go.Proofs.YtjaobihcdkjmbaaGreatDoorW.PrintWords Go.Proofs.YtjaobihcdkjmbaaGreatDoor.PReadTokens
theorem okRef (n:ByteArray) (h:zC7 n=true):OkX (refX n):=ok_of (.inr (.inl ⟨rfl,rfl,h,rfl,rfl⟩)) (fun a h=>by cases h)
theorem okLit (n:ByteArray) (h1:chkR ⟨n,⟨#[49]⟩⟩=0) (h2:negB n=false):OkX ⟨0,⟨n,⟨#[49]⟩⟩,⟨#[]⟩,0,[]⟩:=ok_of (.inl ⟨rfl,h1,h2,.inl rfl,rfl,rfl⟩) (fun a h=>by cases h)
theorem okTwo (op:Int) (h:op=3∨op=4∨op=5∨op=6∨op=9) (a b:S31) (ha:OkX a) (hb:OkX b):OkX (twoX op a b) :=
 ok_of (.inr (.inr (.inr (.inl ⟨h,rfl,rfl,rfl,rfl⟩)))) (fun x hx=>by simp only[kAU,kBD,kCQ] at hx;rcases hx with rfl | rfl;exact ha;exact hb)
theorem chkA:chkE xA=0:=(chk_iff xA).2 ⟨okTwo 3 kCY _ _ (okLit _ kCX kCX) (okTwo 5 kCY _ _ (okRef _ kCX) (okLit _ kCX kCX)),by rw[zDE.2.1];omega⟩
theorem chkB:chkE xB=0:=(chk_iff xB).2 ⟨okTwo 9 kCY _ _ (ok_of (.inr (.inr (.inr (.inr (.inr (.inr (.inr (.inr (.inr ⟨rfl,rfl,kCX,rfl,kD0⟩))))))))) (fun x hx=>by simp only[kAU,kBD,kCQ] at hx;rw[hx];exact okRef _ kCX)) (okRef _ kCX),by rw[zDE.2.2.2.1];omega⟩
theorem chkC:chkE xC=0:=(chk_iff xC).2 ⟨ok_of (.inr (.inr (.inl ⟨rfl,rfl,rfl,rfl,rfl⟩))) (fun x hx=>by
 simp only[kAU,kBD,kCQ] at hx;rw[hx];exact okTwo 5 kCY _ _ (okRef _ kCX) (ok_of (.inr (.inr (.inr (.inr (.inl ⟨rfl,rfl,rfl,kD0,rfl⟩))))) (fun x hx=>by simp only[kAU,kBD,kCQ] at hx;rw[hx];exact okRef _ kCX))),by rw[zDE.2.2.2.2.2.1];omega⟩
theorem chkD:chkE xD=0:=(chk_iff xD).2 ⟨okTwo 4 kCY _ _ (okRef _ kCX) (okTwo 4 kCY _ _ (okRef _ kCX) (okRef _ kCX)),by rw[zDE.2.2.2.2.2.2.2];omega⟩
theorem szsA:szB xA=true:=kCX
theorem szsB:szB xB=true:=kCX
theorem szsC:szB xC=true:=kCX
theorem szsD:szB xD=true:=kCX
theorem smB:smallB xB=true:=kCX
theorem keysG:strKeys (zEK xB)=[[97],[105]]:=kCX
theorem PrintExpr2 (x:S31) (hc:chkE x=0) (hn:zAm x≤4611686018427387904) (hsz:szB x=true) (htx:txtB x=true) (hlen:(zAC x 0).size≤2000) (v:Value) (w:World) (hv:Vw w x v) (hS:Start w) (hT:Tab w) :
  Calls Tryz.prog 20 #[v] w fun e w'=>e=.returned (.tuple #[.string (zAC x 0),.int .i64 0])∧Below w.heap.size w w':=by
 obtain⟨A,c,rfl,hc1,hc2⟩:=hv.out;have hck:=fun w' (hb:Below w.heap.size w w')=>zFc x hc hn hsz _ w' (hv.below hb) (hS.below hb)
 have htt:=fun w' (hb:Below w.heap.size w w')=>text_calls _ x (kA2 _) htx 0 _ w' (hv.below hb) (hT.below hb)
 have hbig:decide (2000<((zAC x 0).size:Int))=false:=kA6 kCW;clear htx;generalize zAC x 0=r at *;obtain⟨f0,f1,f2,f3,xs⟩:=x;simp only at *;unfold exV at *;simp only at *;have HC:=kA1 hck;have HT:=kA1 htt;clear hck htt hv hS hc2 hc hsz hn hT;go_enter Tryz.func20,Tryz.ntmps20;go_wp2_with fail;have hb0:=(kA3 _ w).alloc (kA2 _) (.cells #[.int .i64 f0,.string f1.f0,.string f1.f1,.string f2,.int .i64 f3,.slice A xs.length c] 31);have hbl:=zA4 w (.cells #[.int .i64 f0,.string f1.f0,.string f1.f1,.string f2,.int .i64 f3,.slice A xs.length c] 31);refine (HC.out _ hb0).mono ?_;rintro e w1 ⟨rfl,hb1⟩;have hbl1:=zAb hb1 hbl;obtain⟨⟨q0,q1,q2,q3,q4,q5⟩,_,xl⟩:=zA9 hbl1;have hbw:=hb0.trans (hb1.mono kCY);clear hbl hbl1;go_wp2_with fail;refine (HT.out _ hbw).mono ?_;rintro e w2 ⟨rfl,hb2⟩;go_wp2;refine kAg (results_tmp2 rfl _ _ _) rfl ⟨rfl,hbw.trans (hb2.mono hbw.size)⟩
theorem shown2 (chk:S28→Int) (s:ByteArray) (h:Readable chk s) (x:S31) (hr:zBN chk s=(x,0,0)) (hp:zBK chk s=.ok (x,(zA6 s).length)) (hc:chkE x=0) (hn:zAm x≤4611686018427387904) (hsz:szB x=true) (htx:txtB x=true) (hlen:(zAC x 0).size≤2000)
  (w:World) (hS:Start w) (hT:Tab w) :
  Calls Tryz.prog 44 #[.string s] w fun e w'=>e=.returned (.string (zAC x 0))∧Below w.heap.size w w':=by
 have hrd:=zDc chk s h w hS (fun _=>⟨x,hp,hn⟩);unfold zBz at hrd;rw[hr] at hrd;simp only at hrd;have hpr:=fun v w' (hb:Below w.heap.size w w') (hv:Vw w' x v)=>PrintExpr2 x hc hn hsz htx hlen v w' hv (hS.below hb) (hT.below hb)
 generalize zAC x 0=r at *;have HP:=kA1 hpr;clear hpr h hr hp hc hsz htx hS hT;go_enter Tryz.func44,Tryz.ntmps44;go_wp2_with fail;refine hrd.mono ?_;rintro e w1 ⟨v5,rfl,hx,hb1⟩;obtain⟨A,c,hv5,hc1,hc2⟩:=hx.vw.out;obtain rfl:=zCf hv5;have hvw:=hx.vw;have HX:=kA1 hvw;clear hx hvw hv5 hc2;have hex:exV x (.slice A x.f4.length c)=.agg #[.int .i64 x.f0,.string x.f1.f0,.string x.f1.f1,.string x.f2,.int .i64 x.f3,.slice A x.f4.length c]:=rfl;rw[hex] at HX⊢;have hb2:=hb1.alloc hb1.size (.cells #[.int .i64 x.f0,.string x.f1.f0,.string x.f1.f1,.string x.f2,.int .i64 x.f3,.slice A x.f4.length c] 31);go_wp2_with fail;refine (HP.out _ _ hb2 (HX.out.below ((kA3 _ w1).alloc (kA2 _) _))).mono ?_;rintro e w2 ⟨rfl,hb3⟩;go_wp2;go_ret;exact⟨rfl,hb2.trans (hb3.mono hb2.size)⟩
theorem free_told2 (v:Value) (w:World) (hv:Vw w xB v) (hS:Start w) :
  Calls Tryz.prog 33 #[v] w fun e w'=>∃A c,e=.returned (.tuple #[.slice A 2 c,.int .i64 0])∧2≤c∧Kd.C Kd.string w' A 2 [⟨#[97]⟩,⟨#[105]⟩]∧Below w.heap.size w w':=by
 refine (Free_calls xB chkB (by rw[zDE.2.2.1];omega) szsB smB v w hv hS).mono ?_;rintro e w' ⟨u,ss,base,rfl,hp,ho,_,hb⟩;rw[keysG] at hp;obtain⟨h1,h2⟩:=sorted2 ss hp;rw[h1,h2] at ho;obtain⟨A,c,rfl,h4,h5⟩:=own_texts (xs:=[⟨#[97]⟩,⟨#[105]⟩]) ho;exact⟨A,c,rfl,h4,h5,hb⟩
theorem zCT (w:World) (hS:Start w) (hT:Tab w):Calls Tryz.prog 10 #[] w fun e w'=>e=.returned (.bool true)∧Below w.heap.size w w':=by
 have H1:=kA1 (toks_told);have HRA:=kA1 (fun w (hS:Start w)=>read_told tA plainA xA readA (by rw[lenA];exact parseA chk0) (by rw[zDE.1];omega) w hS);have HRB:=kA1 (fun w (hS:Start w)=>read_told tB plainB xB readB (by rw[lenB];exact parseB chk0) (by rw[zDE.2.2.1];omega) w hS);have HSZ:=kA1 (fun v w (hv:Vw w xA v) (hS:Start w)=>(by simpa[zDE.1,zDE.2.1] using Size_calls xA chkA (by rw[zDE.1];omega) szsA v w hv hS:Calls Tryz.prog 35 #[v] w fun e w'=>e=.returned (.tuple #[.int .i64 5,.int .i64 3,.int .i64 0])∧Below w.heap.size w w'));have HFR:=kA1 (fun v w (hv:Vw w xB v) (hS:Start w)=>free_told2 v w hv hS);have HSC:=kA1 (fun w (hS:Start w) (hT:Tab w)=>(by rw[← textC];exact shown2 chk0 tC (zCi chk0 _ plainC) xC readC (by rw[lenC];exact parseC chk0) chkC (by rw[zDE.2.2.2.2.1];omega) szsC txtC (by rw[textC];show 9≤2000;omega) w hS hT:Calls Tryz.prog 44 #[.string tC] w fun e w'=>e=.returned (.string ⟨#[45,97,32,42,32,98,94,45,50]⟩)∧Below w.heap.size w w'));have HSD:=kA1 (fun w (hS:Start w) (hT:Tab w)=>(by rw[← textD];exact shown2 chk0 tD (zCi chk0 _ plainD) xD readD (by rw[lenD];exact parseD chk0) chkD (by rw[zDE.2.2.2.2.2.2.1];omega) szsD txtD (by rw[textD];show 11≤2000;omega) w hS hT:Calls Tryz.prog 44 #[.string tD] w fun e w'=>e=.returned (.string ⟨#[97,32,45,32,40,98,32,45,32,99,41]⟩)∧Below w.heap.size w w'));have HWE:=kA1 (fun w (hS:Start w)=>wrong_ok chk0 tE (zCi chk0 _ plainE) 2 readE (by rw[placeE];decide) w hS);go_enter Tryz.func10,Tryz.ntmps10;go_wp2_with fail;refine (H1.out _).mono ?_;rintro e w1 ⟨A1,c1,rfl,hc1,hk1,hb1⟩;clear H1;have hk1:=kA1 hk1;go_wp2_with fail;refine (HRA.out _ (hS.below hb1)).mono ?_;rintro e w2 ⟨A2,c2,rfl,hv2,hb2⟩;clear HRA;have hk2:=kA1 (Kd.C_below hk1.out hb2);have hb:=hb1.trans (hb2.mono hb1.size);clear hk1 hb1 hb2;have hl2:xA.f4.length=2:=rfl;rw[hl2] at hv2⊢;have hv2:=kA1 hv2;generalize xA.f0=a0 at *;generalize xA.f1.f0=a1 at *;generalize xA.f1.f1=a2 at *;generalize xA.f2=a3 at *;generalize xA.f3=a4 at *;go_wp2_with fail;have hb3:=hb.alloc hb.size (.cells #[.int .i64 a0,.string a1,.string a2,.string a3,.int .i64 a4,.slice A2 2 c2] 31);have hk3:=kA1 (Kd.C_alloc hk2.out (.cells #[.int .i64 a0,.string a1,.string a2,.string a3,.int .i64 a4,.slice A2 2 c2] 31));refine (HSZ.out _ _ (hv2.out.below ((kA3 _ w2).alloc (kA2 _) _)) (hS.below hb3)).mono ?_;rintro e w3 ⟨rfl,hb4⟩;have hk4:=kA1 (Kd.C_below hk3.out hb4);have hb:=hb3.trans (hb4.mono hb3.size);clear hk2 hk3 hb3 hb4 hv2 HSZ;go_wp2_with fail;refine (HRB.out _ (hS.below hb)).mono ?_;rintro e w4 ⟨A4,c4,rfl,hv4,hb4⟩;clear HRB;have hk5:=kA1 (Kd.C_below hk4.out hb4);have hb:=hb.trans (hb4.mono hb.size);clear hk4 hb4;have hl4:xB.f4.length=2:=rfl;rw[hl4] at hv4⊢;have hv4:=kA1 hv4;generalize xB.f0=b0 at *;generalize xB.f1.f0=b1 at *;generalize xB.f1.f1=b2 at *;generalize xB.f2=b3 at *;generalize xB.f3=b4 at *;go_wp2_with fail;have hb3:=hb.alloc hb.size (.cells #[.int .i64 b0,.string b1,.string b2,.string b3,.int .i64 b4,.slice A4 2 c4] 31);have hk3:=kA1 (Kd.C_alloc hk5.out (.cells #[.int .i64 b0,.string b1,.string b2,.string b3,.int .i64 b4,.slice A4 2 c4] 31));refine (HFR.out _ _ (hv4.out.below ((kA3 _ w4).alloc (kA2 _) _)) (hS.below hb3)).mono ?_;rintro e w5 ⟨A5,c5,rfl,hc5,hf5,hb4⟩;have hk4:=kA1 (Kd.C_below hk3.out hb4);have hb:=hb3.trans (hb4.mono hb3.size);have hf5:=kA1 hf5;clear hk3 hk5 hb3 hb4 hv4 HFR;go_wp2_with fail;refine (HSC.out _ (hS.below hb) (hT.below hb)).mono ?_;rintro e w6 ⟨rfl,hb6⟩;have hk6:=kA1 (Kd.C_below hk4.out hb6);have hf6:=kA1 (Kd.C_below hf5.out hb6);have hb:=hb.trans (hb6.mono hb.size);clear hb6 hk4 hf5 HSC;go_wp2_with fail;refine (HSD.out _ (hS.below hb) (hT.below hb)).mono ?_;rintro e w7 ⟨rfl,hb6⟩;have hk7:=kA1 (Kd.C_below hk6.out hb6);have hf7:=kA1 (Kd.C_below hf6.out hb6);have hb:=hb.trans (hb6.mono hb.size);clear hb6 hk6 hf6 HSD;go_wp2_with fail;refine (HWE.out _ (hS.below hb)).mono ?_;rintro e w8 ⟨rfl,hb6⟩;have hk8:=kA1 (Kd.C_below hk7.out hb6);have hf8:=kA1 (Kd.C_below hf7.out hb6);have hb:=hb.trans (hb6.mono hb.size);clear hb6 hk7 hf7 HWE;go_wp2_with fail;have hb:=hb.alloc hb.size (.cells #[.string ⟨#[97]⟩,.string ⟨#[105]⟩] 9);have hk9:=kA1 (Kd.C_alloc hk8.out (.cells #[.string ⟨#[97]⟩,.string ⟨#[105]⟩] 9));refine (metewandkit_EqTexts.calls 10 A5 c5 [⟨#[97]⟩,⟨#[105]⟩] (some ⟨w8.heap.size,0,none⟩) 2 [⟨#[97]⟩,⟨#[105]⟩] true _ (Kd.C_alloc hf8.out _) hc5 (lit_texts w8 [⟨#[97]⟩,⟨#[105]⟩] kD0) (kA2 _) eqt).mono ?_;rintro e w9 ⟨rfl,hd9⟩;obtain⟨k9,hd9⟩:=hd9.out;subst hd9;have hk10:=kA1 (Kd.C_drewN hk9.out k9);have hb:=zA3 hb k9;clear hk8 hk9 hf8;go_wp2_with fail;have hlit:=lit_toks ((w8.alloc (.cells #[.string ⟨#[97]⟩,.string ⟨#[105]⟩] 9)).drewN k9) [⟨0,⟨#[97,49]⟩,0⟩,⟨4,⟨#[43]⟩,2⟩,⟨2,⟨#[50]⟩,3⟩,⟨3,⟨#[109,47,115]⟩,4⟩] kD0;rw[show ((w8.alloc (.cells #[.string ⟨#[97]⟩,.string ⟨#[105]⟩] 9)).drewN k9).heap.size=w8.heap.size+1 from by simp] at hlit;have hb:=hb.alloc hb.size (.cells (flat [⟨0,⟨#[97,49]⟩,0⟩,⟨4,⟨#[43]⟩,2⟩,⟨2,⟨#[50]⟩,3⟩,⟨3,⟨#[109,47,115]⟩,4⟩]).toArray 47);refine (metewandkit_EqTokens.calls 10 A1 c1 [⟨0,⟨#[97,49]⟩,0⟩,⟨4,⟨#[43]⟩,2⟩,⟨2,⟨#[50]⟩,3⟩,⟨3,⟨#[109,47,115]⟩,4⟩] (some ⟨w8.heap.size+1,0,none⟩) 4 [⟨0,⟨#[97,49]⟩,0⟩,⟨4,⟨#[43]⟩,2⟩,⟨2,⟨#[50]⟩,3⟩,⟨3,⟨#[109,47,115]⟩,4⟩] true _ (Kd.C_alloc hk10.out _) hc1 hlit (kA2 _) eqk).mono ?_;rintro e w10 ⟨rfl,hd⟩;obtain⟨k10,hd⟩:=hd.out;subst hd;have hb:=zA3 hb k10;go_wp2;go_ret;exact⟨rfl,hb⟩
end Go.Proofs.YtjaobihcdkjmbaaGreatDoor
end
