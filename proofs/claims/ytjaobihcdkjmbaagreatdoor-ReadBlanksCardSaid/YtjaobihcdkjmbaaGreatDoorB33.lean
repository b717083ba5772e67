/- The law ReadBlanks answers true for every argument; a part of its proof. -/
import Derived.Test.YtjaobihcdkjmbaaGreatDoorBa
import Derived.Test.YtjaobihcdkjmbaaGreatDoorBb
import Derived.Test.YtjaobihcdkjmbaaGreatDoorB0
import Derived.Test.YtjaobihcdkjmbaaGreatDoorB7
import Derived.Test.YtjaobihcdkjmbaaGreatDoorB9
import Derived.Test.YtjaobihcdkjmbaaGreatDoorB10
import Derived.Test.YtjaobihcdkjmbaaGreatDoorB11
import Derived.Test.YtjaobihcdkjmbaaGreatDoorB16
import Derived.Test.YtjaobihcdkjmbaaGreatDoorB19
import Derived.Test.YtjaobihcdkjmbaaGreatDoorB20
import Derived.Test.YtjaobihcdkjmbaaGreatDoorB22
import Derived.Test.YtjaobihcdkjmbaaGreatDoorB23
import Derived.Test.YtjaobihcdkjmbaaGreatDoorB24
import Derived.Test.YtjaobihcdkjmbaaGreatDoorB25
import Derived.Test.YtjaobihcdkjmbaaGreatDoorB27
set_option linter.unusedVariables false
set_option linter.unusedSimpArgs false
namespace Go.Proofs.YtjaobihcdkjmbaaGreatDoor.PReadTokens
end Go.Proofs.YtjaobihcdkjmbaaGreatDoor.PReadTokens
namespace Go.Proofs.YtjaobihcdkjmbaaGreatDoorW.PrintWords
end Go.Proofs.YtjaobihcdkjmbaaGreatDoorW.PrintWords
set_option maxRecDepth 100000
set_option maxHeartbeats 4000000
section
namespace Go.Proofs.YtjaobihcdkjmbaaGreatDoor
open Go.RowKit Go.Proofs.YtjaobihcdkjmbaaGreatDoorW.PrintWords Go.Proofs.YtjaobihcdkjmbaaGreatDoor.PReadTokens
theorem look_other_num (x:S31) (v5:Value) (w:World) (A:Option Addr) (c:Nat) (hv5:v5=.slice A x.f4.length c) (h0:0≤x.f0) (h1:x.f0≤14) (hlo:zAL x.f0≤x.f4.length) (hhi:(x.f4.length:Int)≤zAN x.f0)
  (hop:x.f0≠0) (hnum:x.f1≠z28):Calls Tryz.prog 102 #[exV x v5] w (zDX 1 w):=by
 obtain⟨op,num,name,size,xs⟩:=x;subst hv5;simp only at *;have hin:=zBA op 0 14;rw[kA7 h0,kA7 h1] at hin;have l1:decide ((xs.length:Int)<zAL op)=false:=kA8 kCT;have l2:decide (zAN op<(xs.length:Int))=false:=kA8 kCT;have hz:=zE1 op;have E0:=zD0;have E9:=zCZ;have E99:=zCj;have hA:=zAG op;have hZ:=zBh op;have hin2:=zBA size (zAw op) (zAx op);obtain⟨nu,de⟩:=num;have b0:=zAF hop;have E28:=eq28 nu de ⟨#[]⟩ ⟨#[]⟩;have hne:(nu.toList==(⟨#[]⟩:ByteArray).toList&&de.toList==(⟨#[]⟩:ByteArray).toList)=false:=by
  rw[nil_eq,nil_eq,kAQ];by_cases h:nu=⟨#[]⟩
  ·refine .inr (kA8 (fun h2=>hnum ?_));rw[h,h2];rfl
  ·exact .inl (kA8 h)
 rw[hne] at E28;generalize zAL op=aL at *;generalize zAN op=aH at *;generalize zAw op=sL at *;generalize zAx op=sH at *;clear h0 h1 hlo hhi hop hnum hne hz hZ hin2 E0 E9 E99;unfold exV;simp only;go_enter Tryz.func102,Tryz.ntmps102;go_wp2_with (first
  | (go_at_call 104;(with_reducible refine (hin _).mono ?_);rintro e wq ⟨rfl,hq⟩;subst wq)
  | (go_at_call 67;(with_reducible refine (zAq _ _).mono ?_);rintro e wq ⟨rfl,hq⟩;subst wq)
  | (go_at_call 67;(with_reducible refine (zAf _ _).mono ?_);rintro e wq ⟨rfl,hq⟩;subst wq))
 refine (hA _).mono ?_;rintro e w1 ⟨rfl,hb1⟩;have hx1:=zA9 hb1 (zA4 w (.cells #[.int .i64 op,.string nu,.string de,.string name,.int .i64 size,.slice A xs.length c] 31));obtain⟨⟨q0,q1,q2,q3,q4,q5⟩,_,xl⟩:=zA6 hx1;have hbw:Below w.heap.size w w1:=((kA3 _ w).alloc (kA2 _) _).trans (hb1.mono kCV);have hbw':=hbw.alloc hbw.size (.cells #[.int .i64 aL,.int .i64 aH] 198);have HX:=kA1 hx1;clear hx1;go_wp2_with (first
  | (go_at_call 104;(with_reducible refine (hin _).mono ?_);rintro e wq ⟨rfl,hq⟩;subst wq)
  | (go_at_call 67;(with_reducible refine (zAq _ _).mono ?_);rintro e wq ⟨rfl,hq⟩;subst wq)
  | (go_at_call 67;(with_reducible refine (zAf _ _).mono ?_);rintro e wq ⟨rfl,hq⟩;subst wq))
 exact⟨rfl,hbw',.inr ⟨kCT,rfl⟩⟩
theorem look_other_bad (x:S31) (v5:Value) (w:World) (A:Option Addr) (c:Nat) (hv5:v5=.slice A x.f4.length c) (h0:0≤x.f0) (h1:x.f0≤14) (hlo:zAL x.f0≤x.f4.length) (hhi:(x.f4.length:Int)≤zAN x.f0)
  (hop:x.f0≠0∧x.f0≠1∧x.f0≠10∧x.f0≠11∧x.f0≠13∧x.f0≠14) (hnum:x.f1=z28) (hname:x.f2≠⟨#[]⟩):Calls Tryz.prog 102 #[exV x v5] w (zDX 4 w):=by
 obtain⟨op,num,name,size,xs⟩:=x;subst hv5;simp only at *;have hin:=zBA op 0 14;rw[kA7 h0,kA7 h1] at hin;have l1:decide ((xs.length:Int)<zAL op)=false:=kA8 kCT;have l2:decide (zAN op<(xs.length:Int))=false:=kA8 kCT;have hz:=zE1 op;have E0:=zD0;have E9:=zCZ;have E99:=zCj;have hA:=zAG op;have hZ:=zBh op;have hin2:=zBA size (zAw op) (zAx op);subst hnum;obtain⟨n0,n1,n10,n11,n13,n14⟩:=hop;have b0:=zAF n0;have b1:=zAF n1;have b10:=zAF n10;have b11:=zAF n11;have b13:=zAF n13;have b14:=zAF n14;have hsome:name.toList.isEmpty=false:=by
  cases h:name.toList with
  | nil=>exact absurd (str_nil h) hname
  | cons _ _=>rfl
 generalize zAL op=aL at *;generalize zAN op=aH at *;generalize zAw op=sL at *;generalize zAx op=sH at *;clear h0 h1 hlo hhi n0 n1 n10 n11 n13 n14 hname hz hZ hin2 E0 E9 E99;unfold exV z28;simp only;go_enter Tryz.func102,Tryz.ntmps102;go_wp2_with (first
  | (go_at_call 104;(with_reducible refine (hin _).mono ?_);rintro e wq ⟨rfl,hq⟩;subst wq)
  | (go_at_call 67;(with_reducible refine (zAq _ _).mono ?_);rintro e wq ⟨rfl,hq⟩;subst wq)
  | (go_at_call 67;(with_reducible refine (zAf _ _).mono ?_);rintro e wq ⟨rfl,hq⟩;subst wq))
 refine (hA _).mono ?_;rintro e w1 ⟨rfl,hb1⟩;have hx1:=zA9 hb1 (zA4 w (.cells #[.int .i64 op,.string ⟨#[]⟩,.string ⟨#[]⟩,.string name,.int .i64 size,.slice A xs.length c] 31));obtain⟨⟨q0,q1,q2,q3,q4,q5⟩,_,xl⟩:=zA6 hx1;have hbw:Below w.heap.size w w1:=((kA3 _ w).alloc (kA2 _) _).trans (hb1.mono kCV);have hbw':=hbw.alloc hbw.size (.cells #[.int .i64 aL,.int .i64 aH] 198);have HX:=kA1 hx1;clear hx1;go_wp2_with (first
  | (go_at_call 104;(with_reducible refine (hin _).mono ?_);rintro e wq ⟨rfl,hq⟩;subst wq)
  | (go_at_call 67;(with_reducible refine (zAq _ _).mono ?_);rintro e wq ⟨rfl,hq⟩;subst wq)
  | (go_at_call 67;(with_reducible refine (zAf _ _).mono ?_);rintro e wq ⟨rfl,hq⟩;subst wq))
 exact⟨rfl,hbw',.inr ⟨kCT,rfl⟩⟩
theorem zFR (x:S31) (v5:Value) (w:World) (A:Option Addr) (c:Nat) (hv5:v5=.slice A x.f4.length c) (h0:0≤x.f0) (h1:x.f0≤14) (hlo:zAL x.f0≤x.f4.length) (hhi:(x.f4.length:Int)≤zAN x.f0)
  (hop:x.f0≠0∧x.f0≠1∧x.f0≠10∧x.f0≠11∧x.f0≠13∧x.f0≠14) (hnum:x.f1=z28) (hname:x.f2=⟨#[]⟩) (n:Int) (hN:Hid (n=if x.f3<zAw x.f0∨zAx x.f0<x.f3 then 2 else 0)):Calls Tryz.prog 102 #[exV x v5] w (zDX n w):=by
 obtain⟨op,num,name,size,xs⟩:=x;subst hv5;simp only at *;have hin:=zBA op 0 14;rw[kA7 h0,kA7 h1] at hin;have l1:decide ((xs.length:Int)<zAL op)=false:=kA8 kCT;have l2:decide (zAN op<(xs.length:Int))=false:=kA8 kCT;have hz:=zE1 op;have E0:=zD0;have E9:=zCZ;have E99:=zCj;have hA:=zAG op;have hZ:=zBh op;have hin2:=zBA size (zAw op) (zAx op);subst hnum hname;obtain⟨n0,n1,n10,n11,n13,n14⟩:=hop;have b0:=zAF n0;have b1:=zAF n1;have b10:=zAF n10;have b11:=zAF n11;have b13:=zAF n13;have b14:=zAF n14;generalize zAL op=aL at *;generalize zAN op=aH at *;generalize zAw op=sL at *;generalize zAx op=sH at *;clear h0 h1 hlo hhi n0 n1 n10 n11 n13 n14;unfold exV z28;simp only;go_enter Tryz.func102,Tryz.ntmps102;go_wp2_with (first
  | (go_at_call 104;(with_reducible refine (hin _).mono ?_);rintro e wq ⟨rfl,hq⟩;subst wq)
  | (go_at_call 67;(with_reducible refine (zAq _ _).mono ?_);rintro e wq ⟨rfl,hq⟩;subst wq)
  | (go_at_call 67;(with_reducible refine (zAf _ _).mono ?_);rintro e wq ⟨rfl,hq⟩;subst wq))
 refine (hA _).mono ?_;rintro e w1 ⟨rfl,hb1⟩;have hx1:=zA9 hb1 (zA4 w (.cells #[.int .i64 op,.string ⟨#[]⟩,.string ⟨#[]⟩,.string ⟨#[]⟩,.int .i64 size,.slice A xs.length c] 31));obtain⟨⟨q0,q1,q2,q3,q4,q5⟩,_,xl⟩:=zA6 hx1;have hbw:Below w.heap.size w w1:=((kA3 _ w).alloc (kA2 _) _).trans (hb1.mono kCV);have hbw':=hbw.alloc hbw.size (.cells #[.int .i64 aL,.int .i64 aH] 198);have HX:=kA1 hx1;clear hx1;have HX1:=HX;go_wp2_with (first
  | (go_at_call 104;(with_reducible refine (hin _).mono ?_);rintro e wq ⟨rfl,hq⟩;subst wq)
  | (go_at_call 67;(with_reducible refine (zAq _ _).mono ?_);rintro e wq ⟨rfl,hq⟩;subst wq)
  | (go_at_call 67;(with_reducible refine (zAf _ _).mono ?_);rintro e wq ⟨rfl,hq⟩;subst wq))
 have HXa:=kA1 ((kA4 w1 (.cells #[.int .i64 aL,.int .i64 aH] 198) _ xl).trans HX.out);have HYa:=kA1 (zA4 w1 (.cells #[.int .i64 aL,.int .i64 aH] 198));have hbwa:=hbw';clear HX1;refine (hZ _).mono ?_;rintro e w2 ⟨rfl,hb2⟩;have hx2:=zA9 hb2 HXa.out;have hy2:=zA9 hb2 HYa.out;have hbw2:=hbwa.trans (hb2.mono hbwa.size);have hw1:=hbw.size;obtain⟨⟨p0,p1,p2,p3,p4,p5⟩,_,xl2⟩:=zA6 hx2;have y0:=zA1 hy2 0;have y1:=zA1 hy2 1;have z0:=zA2 hy2 0;have z1:=zA2 hy2 1;have yl:=zA5 hy2;have hneq:=kB4 xl;clear hx2 hy2 HX hb1 hb2;by_cases hsz:size<sL∨sH<size
 ·have hn:n=2:=by rw[hN.out,kAa hsz]
  have hsb:(decide (sL≤size)&&decide (size≤sH))=false:=by
   rw[kAQ];rcases hsz with h | h
   ·exact .inl (kA8 kCT)
   ·exact .inr (kA8 kCT)
  rw[hsb] at hin2;subst hn;clear hsb;rcases hz with⟨rfl,rfl⟩ | ⟨rfl,rfl⟩ | ⟨rfl,rfl⟩
  ·have hs:(size==0)=false:=zAF kCT;have hs':(size != 0)=true:=by rw[bne,hs];rfl
   clear hsz;go_wp2_with (first
    | (go_at_call 104;(with_reducible refine (hin2 _).mono ?_);rintro e wq ⟨rfl,hq⟩;subst wq)
    | (go_at_call 67;(with_reducible refine (zAq _ _).mono ?_);rintro e wq ⟨rfl,hq⟩;subst wq)
    | (go_at_call 67;(with_reducible refine (zAf _ _).mono ?_);rintro e wq ⟨rfl,hq⟩;subst wq))
   exact⟨rfl,(hbw2.setCell (p:=⟨w1.heap.size,0,none⟩) kCX _).setCell (p:=⟨w1.heap.size,1,none⟩) kCX _,.inr ⟨kCT,rfl⟩⟩
  all_goals
   clear hsz;go_wp2_with (first
    | (go_at_call 104;(with_reducible refine (hin2 _).mono ?_);rintro e wq ⟨rfl,hq⟩;subst wq)
    | (go_at_call 67;(with_reducible refine (zAq _ _).mono ?_);rintro e wq ⟨rfl,hq⟩;subst wq)
    | (go_at_call 67;(with_reducible refine (zAf _ _).mono ?_);rintro e wq ⟨rfl,hq⟩;subst wq))
   exact⟨rfl,(hbw2.setCell (p:=⟨w1.heap.size,0,none⟩) kCX _).setCell (p:=⟨w1.heap.size,1,none⟩) kCX _,.inr ⟨kCT,rfl⟩⟩
 ·have hn:n=0:=by rw[hN.out,kA9 hsz]
  rw[kA7 (show sL≤size by omega),kA7 (show size≤sH by omega)] at hin2;subst hn;rcases hz with⟨rfl,rfl⟩ | ⟨rfl,rfl⟩ | ⟨rfl,rfl⟩
  ·have hs:(size==0)=true:=by rw[kAx];omega
   have hs':(size != 0)=false:=by rw[bne,hs];rfl
   clear hsz;go_wp2_with (first
    | (go_at_call 104;(with_reducible refine (hin2 _).mono ?_);rintro e wq ⟨rfl,hq⟩;subst wq)
    | (go_at_call 67;(with_reducible refine (zAq _ _).mono ?_);rintro e wq ⟨rfl,hq⟩;subst wq)
    | (go_at_call 67;(with_reducible refine (zAf _ _).mono ?_);rintro e wq ⟨rfl,hq⟩;subst wq))
   exact kBd (kB0 rfl _ _ _) rfl ⟨(hbw2.setCell (p:=⟨w1.heap.size,0,none⟩) kCX _).setCell (p:=⟨w1.heap.size,1,none⟩) kCX _,.inl ⟨rfl,rfl⟩⟩
  all_goals
   clear hsz;go_wp2_with (first
    | (go_at_call 104;(with_reducible refine (hin2 _).mono ?_);rintro e wq ⟨rfl,hq⟩;subst wq)
    | (go_at_call 67;(with_reducible refine (zAq _ _).mono ?_);rintro e wq ⟨rfl,hq⟩;subst wq)
    | (go_at_call 67;(with_reducible refine (zAf _ _).mono ?_);rintro e wq ⟨rfl,hq⟩;subst wq))
   exact kBd (kB0 rfl _ _ _) rfl ⟨(hbw2.setCell (p:=⟨w1.heap.size,0,none⟩) kCX _).setCell (p:=⟨w1.heap.size,1,none⟩) kCX _,.inl ⟨rfl,rfl⟩⟩
structure Sz (x:S31):Prop where
 num:x.f1.f0.size≤4611686018427387904
 den:x.f1.f1.size≤4611686018427387904
 name:x.f2.size≤4611686018427387904
theorem chkR_pos {r:S28} (h:chkR r=0):0<r.f0.size:=by
 unfold chkR at h;by_cases h1:zC8 r.f0=1∨zC8 r.f1=1∨negB r.f1=true∨r.f1=⟨#[48]⟩
 ·rw[kAa h1] at h;cases h
 ·exact zFp (zFu (fun h2=>h1 (.inl h2)))
theorem look_calls (x:S31) (hsz:Sz x) (v:Value) (w:World) (hv:Vw w x v) (hS:Start w):Calls Tryz.prog 102 #[v] w (zDX (zDC x) w):=by
 obtain⟨A,c,rfl,_,_⟩:=hv.out;have k1:=hsz.num;have k2:=hsz.den;have k3:=hsz.name;unfold zDC;by_cases h1:x.f0<0∨14<x.f0
 ·rw[kAa h1];exact look_out x _ w A c rfl h1
 rw[kA9 h1];by_cases h2:(x.f4.length:Int)<zAL x.f0
 ·rw[kAa h2];have:=look_args x _ w A c rfl kCT kCT (.inl h2)
  rwa [kAa h2] at this
 rw[kA9 h2];by_cases h3:zAN x.f0<(x.f4.length:Int)
 ·rw[kAa h3];have:=look_args x _ w A c rfl kCT kCT (.inr h3)
  rwa [kA9 h2] at this
 rw[kA9 h3];unfold midE;by_cases h4:x.f0=0
 ·rw[kAa h4];by_cases h5:chkR x.f1≠0
  ·rw[kAa h5];exact look_lit_chk x _ w A c rfl kCT kCT kCT kCT h4 hS kCT kCT _ rfl h5
  rw[kA9 h5];have h5':chkR x.f1=0:=kCT
  have hp:=chkR_pos h5';have hh:=neg_head hp;by_cases h6:negB x.f1.f0=true
  ·rw[kAa h6];exact look_lit_neg x _ w A c rfl kCT kCT kCT kCT h4 hS kCT kCT h5' hp (by rw[hh,h6])
  rw[kA9 h6];have h6':negB x.f1.f0=false:=by simpa using h6
  rw[h6'] at hh;unfold tailE zDF;rw[kAa h4];by_cases h7:x.f2=⟨#[]⟩
  ·rw[kA9 kDx];exact look_lit_plain x _ w A c rfl kCT kCT kCT kCT h4 hS kCT kCT h5' hp hh h7 _ (kA1 rfl)
  ·cases h8:zCw x.f2
   ·rw[kAa kDx];exact look_lit_bad x _ w A c rfl kCT kCT kCT kCT h4 hS kCT kCT h5' hp hh kCT h7 h8
   ·rw[kA9 kCV];exact look_lit_unit x _ w A c rfl kCT kCT kCT kCT h4 hS kCT kCT h5' hp hh kCT h7 h8 _ (kA1 rfl)
 rw[kA9 h4];by_cases h5:x.f1≠z28
 ·rw[kAa h5];exact look_other_num x _ w A c rfl kCT kCT kCT kCT h4 h5
 rw[kA9 h5];have h5':x.f1=z28:=by simpa using h5
 unfold tailE zDF;rw[kA9 h4];by_cases h6:x.f0=1∨x.f0=10∨x.f0=11∨x.f0=13∨x.f0=14
 ·rw[kAa h6]
  cases h7:zC0 x.f2
  ·rw[kAa kCV];exact look_named_bad x _ w A c rfl kCT kCT kCT kCT h6 h5' kCT h7
  ·rw[kA9 kCV];exact zFS x _ w A c rfl kCT kCT kCT kCT h6 h5' kCT h7 _ (kA1 rfl)
 ·rw[kA9 h6];by_cases h7:x.f2=⟨#[]⟩
  ·rw[kA9 kDx];exact zFR x _ w A c rfl kCT kCT kCT kCT ⟨h4,kCT,kCT,kCT,kCT,kCT⟩ h5' h7 _ (kA1 rfl)
  ·rw[kAa kDx];exact look_other_bad x _ w A c rfl kCT kCT kCT kCT ⟨h4,kCT,kCT,kCT,kCT,kCT⟩ h5' h7
mutual
/-- The first error in an expression that is inside of d others;0 if it has none. -/
noncomputable def zEg:Nat→S31→Int
 | d,⟨a,b,c,e,l⟩=>if 30≤d then 7 else if zDC ⟨a,b,c,e,l⟩≠0 then zDC ⟨a,b,c,e,l⟩ else zEf (d+1) l
noncomputable def zEf:Nat→List S31→Int
 | _,[]=>0
 | d,x :: l=>if zEg d x≠0 then zEg d x else zEf d l
end
theorem walkE_eq (d:Nat) (x:S31):zEg d x=if 30≤d then 7 else if zDC x≠0 then zDC x else zEf (d+1) x.f4:=by cases x;rw[zEg]
theorem walkL_drop (d:Nat) (l:List S31) (j:Nat) (h:j<l.length):zEf d (l.drop j)=if zEg d l[j]≠0 then zEg d l[j] else zEf d (l.drop (j+1)):=by
 rw[kAr h,zEf]
mutual
/-- The strings of an expression,and of all in it,are no great ones. -/
def szB:S31→Bool
 | ⟨_,b,c,_,l⟩=>decide (b.f0.size≤4611686018427387904)&&decide (b.f1.size≤4611686018427387904)&&decide (c.size≤4611686018427387904)&&szL l
def szL:List S31→Bool
 | []=>true
 | x :: l=>szB x&&szL l
end
theorem szB_eq (x:S31):szB x=(decide (x.f1.f0.size≤4611686018427387904)&&decide (x.f1.f1.size≤4611686018427387904)&&decide (x.f2.size≤4611686018427387904)&&szL x.f4):=by cases x;rfl
theorem szL_mem {l:List S31} (h:szL l=true) {x:S31} (hx:x∈l):szB x=true:=by
 induction l with
 | nil=>simp at hx
 | cons y l ih =>
  simp only[szL,kAj] at h;rcases kAI.1 hx with rfl | hx
  ·exact h.1
  ·exact ih h.2 hx
theorem sz_of {x:S31} (h:szB x=true):Sz x∧szL x.f4=true:=by
 rw[szB_eq] at h;simp only[kAj,kAN] at h;exact⟨⟨h.1.1.1,h.1.1.2,h.1.2⟩,h.2⟩
theorem walk_calls:∀(n:Nat) (x:S31) (d:Nat),zAC x≤n→d≤30→zAH x≤4611686018427387904→szB x=true→∀(v:Value) (w:World),Vw w x v→Start w →
  Calls Tryz.prog 64 #[v,.int .i64 d] w (zDX (zEg d x) w):=by
 intro n
 induction n with
 | zero=>intro x d h;rw[zAr] at h;omega
 | succ n ih =>
  intro x d hd hd30 hn hsz v w hv hS;obtain⟨hz1,hz2⟩:=sz_of hsz;have hlook:=fun w' (hb:Below w.heap.size w w') (v':Value) (hv':Vw w' x v')=>look_calls x hz1 v' w' hv' (hS.below hb)
  obtain⟨A,c,rfl,hc1,hc2⟩:=hv.out;rw[zAr] at hd;rw[zBx] at hn;rw[walkE_eq];obtain⟨lk,hlk⟩:∃k,k=zDC x:=⟨_,rfl⟩;rw[← hlk] at hlook⊢;replace hlk:=kA1 hlk;have hrec:∀(j:Nat) (hj:j<x.f4.length),d<30→∀v w',Below w.heap.size w w'→Vw w' x.f4[j] v→Calls Tryz.prog 64 #[v,.int .i64 (d+1:Nat)] w' (zDX (zEg (d+1) x.f4[j]) w'):=by
   intro j hj hdd v w' hb hv';have h1:=zB7 (kAA hj);have h2:=zDN (kAA hj);exact ih _ _ kCT kCT kCT (szL_mem hz2 (kAA hj)) v w' hv' (hS.below hb)
  have hlen:=zCy x.f4;have hv0:=hv;have hdrop:=walkL_drop (d+1) x.f4;obtain⟨f0,f1,f2,f3,xs⟩:=x;simp only at *;clear ih hv hz1 hz2 hsz hS;unfold exV at *;simp only at *;have HR:=kA1 hrec;have HL:=kA1 hlook;have HV:=kA1 hv0;have HC:=kA1 hc2;have HD:=kA1 hdrop;clear hrec hlook hv0 hc2 hdrop;have hb0:=(kA3 _ w).alloc (kA2 _) (.cells #[.int .i64 f0,.string f1.f0,.string f1.f1,.string f2,.int .i64 f3,.slice A xs.length c] 31);by_cases h30:30≤d
  ·rw[kAa h30];have hdl:decide (30≤(d:Int))=true:=kA7 kCT;clear h30;go_enter Tryz.func64,Tryz.ntmps64;go_wp2_with (go_at_call 67;(with_reducible refine (zAf _ _).mono ?_);rintro e wq ⟨rfl,hq⟩;subst wq);exact⟨rfl,hb0,.inr ⟨kCT,rfl⟩⟩
  rw[kA9 h30];have hdl:decide (30≤(d:Int))=false:=kA8 kCT;obtain⟨R,hR⟩:∃R,R=if lk≠0 then lk else zEf (d+1) xs:=⟨_,rfl⟩
  rw[← hR];replace hR:=kA1 hR;go_enter Tryz.func64,Tryz.ntmps64;go_wp2_with (go_at_call 67;(with_reducible refine (zAq _ _).mono ?_);rintro e wq ⟨rfl,hq⟩;subst wq);refine (HL.out _ hb0 _ (HV.out.below ((kA3 _ w).alloc (kA2 _) _))).mono ?_;rintro e w1 ⟨hb1,hcase⟩;have hbw:=hb0.trans (hb1.mono kCV);rcases hcase.symm with⟨h0,he⟩ | ⟨h0,rfl⟩
  ·have hR2:Hid (R=lk):=kA1 (by rw[hR.out,kAa h0]);unfold zBn at he;subst he;replace h0:=kA1 h0;clear hR;go_wp2;exact⟨rfl,hbw,.inr ⟨by rw[hR2.out];exact h0.out,by rw[hR2.out];rfl⟩⟩
  replace hR:Hid (R=zEf (d+1) xs):=kA1 (by rw[hR.out,kA9 kCT]);clear h0;have hx1:=zA9 hb1 (zA4 w (.cells #[.int .i64 f0,.string f1.f0,.string f1.f1,.string f2,.int .i64 f3,.slice A xs.length c] 31));obtain⟨⟨q0,q1,q2,q3,q4,q5⟩,_,xl⟩:=zA6 hx1;clear hx1 hb1;go_wp2;go_loopg [14] xs.length (fun k i wr=>∃j:Nat,j+k=xs.length∧i=.int .i64 j∧Below w.heap.size w wr∧Hid (R=zEf (d+1) (xs.drop j)))
  case atStart=>exact⟨0,kCT,rfl,hbw,by rw[kBZ];exact hR⟩
  case round =>
   clear hbw q0 q1 q2 q3 q4 q5 xl hR;obtain⟨j,hj,rfl,hat,HRj⟩:=hrel;by_cases hjl:j<xs.length
   ·obtain⟨ad,A5,c5,rfl,q0,q1,q2,q3,q4,q5,hvw⟩:=zAo (Kd.C_below HC.out hat) j hjl;have hr:=HR.out j hjl kCT;have hdj:=HD.out j hjl;generalize xs[j]=y at *;have Hvw:=kA1 hvw;have hd1:((d+1:Nat):Int)=(d:Int)+1:=kCT
    rw[hd1] at hr;obtain⟨m,hm⟩:∃m,m=zEg (d+1) y:=⟨_,rfl⟩;rw[← hm] at hr hdj;rw[hdj] at HRj;clear hvw hm hdj;go_wp2_with fail;refine (hr _ _ (hat.alloc hat.size _) (Hvw.out.below ((kA3 _ _).alloc (kA2 _) _))).mono ?_;rintro e w2 ⟨hb2,hcase⟩;have hat2:Below w.heap.size w w2:=(hat.alloc hat.size _).trans (hb2.mono (by simp;have:=hat.size;omega));clear hr;rcases hcase with⟨h0,rfl⟩ | ⟨h0,he⟩
    ·have HRj':Hid (R=zEf (d+1) (xs.drop (j+1))):=kA1 (by rw[HRj.out,kA9 kCT]);clear h0 HRj;go_wp2;go_roundg (gk-1)
     case measure=>omega
     case rel=>exact⟨j+1,zCF hj hjl,by go_num,hat2,HRj'⟩
    ·have HRj':Hid (R=m):=kA1 (by rw[HRj.out,kAa h0]);unfold zBn at he;subst he;replace h0:=kA1 h0;clear HRj;go_wp2;exact⟨rfl,hat2,.inr ⟨by rw[HRj'.out];exact h0.out,by rw[HRj'.out];rfl⟩⟩
   ·obtain rfl:j=xs.length:=kCT
    have HRj':Hid (R=0):=kA1 (by rw[HRj.out,kCJ,zEf]);go_wp2;exact kBd (kB0 rfl _ _ _) rfl ⟨hat,.inl ⟨HRj'.out,rfl⟩⟩
noncomputable def chkE (x:S31):Int:=zEg 0 x
theorem zGc (x:S31) (hn:zAH x≤4611686018427387904) (hsz:szB x=true) (v:Value) (w:World) (hv:Vw w x v) (hS:Start w) :
  Calls Tryz.prog 27 #[v] w fun e w'=>e=.returned (.int .i64 (chkE x))∧Below w.heap.size w w':=by
 obtain⟨A,c,rfl,hc1,hc2⟩:=hv.out;have hmf:∀(fn:Fn) (first cap:Array Value) (w:World),(Instr.makeFunc fn first cap).run Tryz.prog w=.ok (.func fn first cap) w:=fun _ _ _ _=>rfl
 have hb0:∀o,Below w.heap.size w ((w.alloc o).alloc (.cells #[.int .i64 0] 36)):=fun o=>((kA3 _ w).alloc (kA2 _) _).alloc kCV _
 have hw:=fun w' (hb:Below w.heap.size w w')=>walk_calls _ x 0 (kA2 _) kCT hn hsz _ w' (hv.below hb) (hS.below hb)
 change ∀w',Below w.heap.size w w'→Calls Tryz.prog 64 #[_,.int .i64 0] w' (zDX (chkE x) w') at hw;have hr0:∀o,((w.alloc o).alloc (.cells #[.int .i64 0] 36)).heap[w.heap.size+1]?=some (.cells #[.int .i64 0] 36 (0,0)):=fun o=>by have:=zA4 (w.alloc o) (.cells #[.int .i64 0] 36);rwa [kAz] at this
 generalize chkE x=n at *;have hge:=fun o=>(hS.below (hb0 o)).err
 obtain⟨f0,f1,f2,f3,xs⟩:=x;simp only at *;unfold exV at *;simp only at *;have HW:=kA1 hw;have HG:=kA1 hge;clear hw hv hS hc2 hge;go_enter_defers Tryz.func27,Tryz.ntmps27;go_wp2_with fail;refine (HW.out _ (hb0 _)).mono ?_;rintro e w1 ⟨hb1,hcase⟩;have hr1:=zA9 hb1 (hr0 _);have hg1:=zA0 hb1 (HG.out _);have hbw:=(hb0 (.cells #[.int .i64 f0,.string f1.f0,.string f1.f1,.string f2,.int .i64 f3,.slice A xs.length c] 31)).trans (hb1.mono kCX);rcases hcase with⟨h0,rfl⟩ | ⟨h0,he⟩
 ·subst h0;have c1:=zA1 hr1 0;have f1':=zA2 hr1 0;go_wp2;have hr2:=zA7 hr1 0 (.int .i64 0);have hbw2:=hbw.setCell (p:=⟨w.heap.size+1,0,none⟩) kCV (.int .i64 0);generalize w1.setCell ⟨w.heap.size+1,0,none⟩ (.int .i64 0)=w2 at *;refine kBR (f:=62) (args:=#[.pointer (some ⟨w.heap.size+1,0,none⟩)]) kCV kD9 ?_;refine (catch62_idle (w.heap.size+1) (.int .i64 0) w2 hr2).mono ?_;rintro e u w3 ⟨rfl,rfl,hw3⟩;have c4:w3.cell? ⟨w.heap.size+1,0,none⟩=some (.int .i64 0):=by rw[hw3];exact zA1 (zA7 hr2 0 (.int .i64 0)) 0
  have hfin:Below w.heap.size w w3:=by rw[hw3];exact hbw2.setCell (p:=⟨w.heap.size+1,0,none⟩) kCV _
  simp[Leaves,settle,results,Tryz.results27,go_sem,c4,hfin]
 ·unfold zBn at he;subst he;clear h0;go_wp2;refine kBR (f:=62) (args:=#[.pointer (some ⟨w.heap.size+1,0,none⟩)]) kCV kD9 ?_;refine (catch62_hit (w.heap.size+1) n (.int .i64 0) [] w1 hr1 hg1).mono ?_;rintro e u w3 ⟨rfl,rfl,hs3,hg3⟩;have c4:w3.cell? ⟨w.heap.size+1,0,none⟩=some (.int .i64 n):=zA1 hs3 0;have hfin:Below w.heap.size w w3:=hbw.grown hg3 hbw.size (fun j e=>by injection e with e;omega);simp[Leaves,settle,results,Tryz.results27,go_sem,c4,hfin]
end Go.Proofs.YtjaobihcdkjmbaaGreatDoor
end
section
namespace Go.Proofs.YtjaobihcdkjmbaaGreatDoor
open Go.RowKit Go.Maps Go.WideShapes Go.Proofs.YtjaobihcdkjmbaaGreatDoorW.PrintWords Go.Proofs.YtjaobihcdkjmbaaGreatDoor.PReadTokens
theorem repl_all (B:S31→Prop) (p:Int→S28→ByteArray→Int→Nat→Prop) (hB:∀x,B x↔(p x.f0 x.f1 x.f2 x.f3 x.f4.length∧∀a∈x.f4,B a)) (name:ByteArray) (y:S31) (T:DataW Unit) (hy:B y) :
  ∀(n:Nat) (x z:S31),zAC x≤n→B x→replS name y T x=some z→B z:=by
 intro n
 induction n with
 | zero=>intro x z h;rw[zAr] at h;omega
 | succ n ih =>
  intro x z hd hx h;rw[zAr] at hd;rcases replS_cases h with⟨_,_,rfl⟩ | ⟨_,l',hl,rfl⟩
  ·exact hy
  ·have key:∀(l l':List S31) (i:Nat),(∀a∈l,zAC a≤n∧B a)→zEo name y T x.f0 x.f2 i l=some l'→l'.length=l.length∧∀b∈l',B b:=by
    intro l
    induction l with
    | nil=>intro l' i _ h;rw[replL_nil] at h;injection h with h;subst h;exact⟨rfl,fun b hb=>by cases hb⟩
    | cons a l ih2 =>
     intro l' i hall h;obtain⟨b,r,rfl,hb,hr⟩:=replL_cons h;obtain⟨h1,h2⟩:=ih2 r (i+1) (fun c hc=>hall c (kAK _ hc)) hr;obtain⟨da,ba⟩:=hall a (kAJ ..);refine⟨by simp[h1],fun c hc=>?_⟩;rcases kAI.1 hc with rfl | hc
     ·rcases replOne_cases hb with⟨_,_,rfl⟩ | ⟨_,_,h5⟩
      ·exact ba
      ·exact ih a c da ba h5
     ·exact h2 c hc
   obtain⟨h1,h2⟩:=(hB x).1 hx;obtain⟨k1,k2⟩:=key x.f4 l' 0 (fun a ha=>⟨kDF,h2 a ha⟩) hl;exact (hB _).2 ⟨by simp only;rw[k1];exact h1,k2⟩
theorem smallL_iff (l:List S31):zF2 l=true↔∀a∈l,zDv a=true:=by
 induction l with
 | nil=>simp[zF2]
 | cons a l ih=>rw[zF2,kAj,ih];simp
theorem zFy (x:S31):zDv x=true↔(x.f2.size≤4611686018427387904∧∀a∈x.f4,zDv a=true):=by rw[smallB_eq,kAj,kAN,smallL_iff]
theorem szL_iff (l:List S31):szL l=true↔∀a∈l,szB a=true:=by
 induction l with
 | nil=>simp[szL]
 | cons a l ih=>rw[szL,kAj,ih];simp
theorem sz_iff (x:S31):szB x=true↔((x.f1.f0.size≤4611686018427387904∧x.f1.f1.size≤4611686018427387904∧x.f2.size≤4611686018427387904)∧∀a∈x.f4,szB a=true):=by
 rw[szB_eq];simp only[kAj,kAN,szL_iff];constructor
 ·rintro⟨⟨⟨h1,h2⟩,h3⟩,h4⟩;exact⟨⟨h1,h2,h3⟩,h4⟩
 ·rintro⟨⟨h1,h2,h3⟩,h4⟩;exact⟨⟨⟨h1,h2⟩,h3⟩,h4⟩
inductive OkX:S31→Prop
 | mk (x:S31) (h:zDC x=0) (hl:∀a∈x.f4,OkX a):OkX x
theorem walkL_zero (d:Nat):∀l:List S31,zEf d l=0↔∀a∈l,zEg d a=0
 | []=>by rw[zEf];simp
 | a :: l=>by
  rw[zEf];by_cases h:zEg d a=0
  ·rw[kA9 (by simp[h]),walkL_zero d l];simp[h]
  ·rw[kAa h];simp[h]
theorem depthL_le {l:List S31} {m:Nat} (h:∀a∈l,zAC a≤m):zB3 l≤m:=by
 induction l with
 | nil=>simp[zB3]
 | cons a l ih =>
  have h1:=h a (kAJ ..);have h2:=ih (fun b hb=>h b (kAK _ hb));rw[zB3];omega
theorem walk_iff:∀(n:Nat) (x:S31) (d:Nat),zAC x≤n→(zEg d x=0↔(OkX x∧d+zAC x≤30)):=by
 intro n
 induction n with
 | zero=>intro x d h;rw[zAr] at h;omega
 | succ n ih =>
  intro x d hd;rw[zAr] at hd;have hi:∀a∈x.f4,(zEg (d+1) a=0↔(OkX a∧d+1+zAC a≤30)):=fun a ha=>ih a (d+1) kDF
  rw[walkE_eq];by_cases h30:30≤d
  ·rw[kAa h30];constructor
   ·intro h;omega
   ·rintro⟨_,h⟩;rw[zAr] at h;omega
  ·rw[kA9 h30];by_cases hl:zDC x=0
   ·rw[kA9 (by simp[hl]),walkL_zero];constructor
    ·intro h;refine⟨⟨_,hl,fun a ha=>((hi a ha).1 (h a ha)).1⟩,?_⟩;have:=depthL_le (m:=30-(d+1)) (fun a ha=>by have:=((hi a ha).1 (h a ha)).2;omega);rw[zAr];omega
    ·rintro⟨⟨_,_,hok⟩,hdd⟩ a ha;refine (hi a ha).2 ⟨hok a ha,?_⟩;have:=zB7 ha;rw[zAr] at hdd;omega
   ·rw[kAa hl];constructor
    ·intro h;exact absurd h hl
    ·rintro⟨⟨_,h,_⟩,_⟩;exact absurd h hl
theorem zG4 (x:S31):chkE x=0↔(OkX x∧zAC x≤30):=by
 have:=walk_iff _ x 0 (kA2 _);rw[kAH] at this;exact this
end Go.Proofs.YtjaobihcdkjmbaaGreatDoor
end
section
namespace Go.Proofs.YtjaobihcdkjmbaaGreatDoor
open Go.RowKit Go.Proofs.YtjaobihcdkjmbaaGreatDoorW.PrintWords Go.Proofs.YtjaobihcdkjmbaaGreatDoor.PReadTokens
structure Rod (w:World) (R N:Nat):Prop where
 out:∃A l c at_ st,w.heap[R]?=some (.cells #[.slice A (l:Nat) c,.int .i64 at_,.int .u64 st] 77 (0,0))∧0≤at_∧at_≤N∧l≤9223372036854775807 ∧
  (∀i,i<l→∃ad x,A=some ad∧w.cell? (ad.add i)=some (.int .i64 x)∧ad.block<R)
theorem zCG (a:Addr) (n:Nat):(a.add n).block=a.block:=by unfold Addr.add;split<;>rfl
theorem xor_pos (x y:Int):0≤Go.bits .xor .u64 x y:=wrap_u64_nonneg _
theorem turn_calls (R N:Nat) (w:World) (hR:Rod w R N) (hN:N≤1000000) :
  Calls Tryz.prog 59 #[.pointer (some ⟨R,0,none⟩)] w fun e w'=>(∃x,e=.returned (.int .u64 x)∧0≤x)∧Rod w' R (N+1)∧w.grownBy w' (some R):=by
 obtain⟨A,l,c,at_,st,h0,h1,h2,hl,h3⟩:=hR.out;have a0:=zA1 h0 0;have a1:=zA1 h0 1;have a2:=zA1 h0 2;have f1:=zA2 h0 1;have f2:=zA2 h0 2;have hw1:IntKind.i64.wrap (at_+1)=at_+1:=by simp[IntKind.wrap,IntKind.bits,IntKind.signed];omega
 go_enter Tryz.func59,Tryz.ntmps59;go_wp2_with fail;have K:w.drew.cell? ⟨R,0,none⟩=some (.slice A l c)∧w.drew.cell? ⟨R,1,none⟩=some (.int .i64 at_):=⟨a0,a1⟩
 go_region_held3 (fun w':World=>w'.cell? ⟨R,0,none⟩=some (.slice A l c)∧w'.cell? ⟨R,1,none⟩=some (.int .i64 at_)) (first | with_reducible exact K) (fail)
 by_cases hlt:at_<l
 ·obtain⟨ad,x,hA,hx,_⟩:=h3 at_.toNat kCT;have hx:w.drew.cell? (ad.add at_.toNat)=some (.int .i64 x):=hx;subst hA;have q1:(0≤at_)=True:=kB7 h1;have q2:(at_<(l:Int))=True:=kB7 hlt;have q3:decide (at_<(l:Int))=true:=kA7 hlt;rw[q3];go_wp2_with fail;have K:w.drew.drew.cell? ⟨R,0,none⟩=some (.slice (some ad) l c)∧w.drew.drew.cell? ⟨R,1,none⟩=some (.int .i64 at_)∧w.drew.drew.cell? (ad.add at_.toNat)=some (.int .i64 x):=⟨a0,a1,hx⟩;clear hx
  go_region_held3 (fun w':World=>w'.cell? ⟨R,0,none⟩=some (.slice (some ad) l c)∧w'.cell? ⟨R,1,none⟩=some (.int .i64 at_)∧w'.cell? (ad.add at_.toNat)=some (.int .i64 x)) (first | with_reducible exact K) (fail)
  generalize IntKind.u64.wrap (IntKind.u64.wrap ((at_+1)*13503953896175478587)+IntKind.u64.wrap (IntKind.u64.wrap x*4354685564936845355))=v3;go_wp2_with fail;generalize IntKind.u64.wrap (bits BinOp.xor IntKind.u64 st v3*11912009170470909681)=st2;have j0:((((w.setCell ⟨R,1,none⟩ (.int .i64 (at_+1))).setCell ⟨R,2,none⟩ (.int .u64 st2)).drew.drew)).heap[R]?=some (.cells #[.slice (some ad) l c,.int .i64 (at_+1),.int .u64 st2] 77 (0,0)):=zA7 (zA7 h0 1 (.int .i64 (at_+1))) 2 (.int .u64 st2);have g0:w.grownBy ((((w.setCell ⟨R,1,none⟩ (.int .i64 (at_+1))).setCell ⟨R,2,none⟩ (.int .u64 st2)).drew.drew)) (some R):=zBm (n:=1) (zBm (n:=1) (kA6 (kAf _ _ _ _) (kAf _ _ _ _)) );generalize (((w.setCell ⟨R,1,none⟩ (.int .i64 (at_+1))).setCell ⟨R,2,none⟩ (.int .u64 st2)).drew.drew)=W at *;have c2:W.cell? ⟨R,2,none⟩=some (.int .u64 st2):=zA1 j0 2;have e2:W.frozen? ⟨R,2,none⟩=false:=zA2 j0 2;have c2':W.drew.cell? ⟨R,2,none⟩=some (.int .u64 st2):=zA1 j0 2;have e2':W.drew.frozen? ⟨R,2,none⟩=false:=zA2 j0 2;have j0:W.drew.heap[R]?=some (.cells #[.slice (some ad) l c,.int .i64 (at_+1),.int .u64 st2] 77 (0,0)):=j0;clear K;go_still_tail 13,kCU;go_wp2_with fail;go_ret;have g1:w.grownBy ((W.setCell ⟨R,2,none⟩ (.int .u64 (bits BinOp.xor IntKind.u64 st2 (st2 / 2147483648)))).drew) (some R):=zBm (n:=1) (Lib.grownBy_setB g0 2 _);refine⟨⟨_,rfl,kBQ (xor_pos _ _) kCW⟩,⟨_,l,c,at_+1,_,zA7 j0 2 _,kCT,kCT,hl,?_⟩,g1⟩;intro i hi;obtain⟨ad,x,e1,e2,e3⟩:=h3 i hi;exact⟨ad,x,e1,cell_grown g1 e2 (by rw[zCG];exact kB4 e3),e3⟩
 ·have q3:decide (at_<(l:Int))=false:=kA8 hlt;rw[q3];generalize IntKind.u64.wrap ((at_+1)*13503953896175478587)=v3;go_wp2_with fail;generalize IntKind.u64.wrap (bits BinOp.xor IntKind.u64 st v3*11912009170470909681)=st2;have j0:((((w.setCell ⟨R,1,none⟩ (.int .i64 (at_+1))).setCell ⟨R,2,none⟩ (.int .u64 st2)).drew)).heap[R]?=some (.cells #[.slice A l c,.int .i64 (at_+1),.int .u64 st2] 77 (0,0)):=zA7 (zA7 h0 1 (.int .i64 (at_+1))) 2 (.int .u64 st2);have g0:w.grownBy ((((w.setCell ⟨R,1,none⟩ (.int .i64 (at_+1))).setCell ⟨R,2,none⟩ (.int .u64 st2)).drew)) (some R):=zBm (n:=1) (kA6 (kAf _ _ _ _) (kAf _ _ _ _));generalize (((w.setCell ⟨R,1,none⟩ (.int .i64 (at_+1))).setCell ⟨R,2,none⟩ (.int .u64 st2)).drew)=W at *;have c2:W.cell? ⟨R,2,none⟩=some (.int .u64 st2):=zA1 j0 2;have e2:W.frozen? ⟨R,2,none⟩=false:=zA2 j0 2;have c2':W.drew.cell? ⟨R,2,none⟩=some (.int .u64 st2):=zA1 j0 2;have e2':W.drew.frozen? ⟨R,2,none⟩=false:=zA2 j0 2;have j0:W.drew.heap[R]?=some (.cells #[.slice A l c,.int .i64 (at_+1),.int .u64 st2] 77 (0,0)):=j0;clear K;go_still_tail 13,kCU;go_wp2_with fail;go_ret;have g1:w.grownBy ((W.setCell ⟨R,2,none⟩ (.int .u64 (bits BinOp.xor IntKind.u64 st2 (st2 / 2147483648)))).drew) (some R):=zBm (n:=1) (Lib.grownBy_setB g0 2 _);refine⟨⟨_,rfl,kBQ (xor_pos _ _) kCW⟩,⟨_,l,c,at_+1,_,zA7 j0 2 _,kCT,kCT,hl,?_⟩,g1⟩;intro i hi;obtain⟨ad,x,e1,e2,e3⟩:=h3 i hi;exact⟨ad,x,e1,cell_grown g1 e2 (by rw[zCG];exact kB4 e3),e3⟩
theorem zDm (R N:Nat) (n:Int) (w:World) (hR:Rod w R N) (hN:N≤1000000) (hn:n≤1000000) (hn0:0≤n) :
  Calls Tryz.prog 22 #[.pointer (some ⟨R,0,none⟩),.int .i64 n] w fun e w'=>(∃x,e=.returned (.int .i64 x)∧0≤x∧x≤n)∧Rod w' R (N+1)∧w.grownBy w' (some R):=by
 have ht:=turn_calls R N w hR hN;go_enter Tryz.func22,Tryz.ntmps22;go_wp2_with fail;refine ht.mono ?_;rintro e w1 ⟨⟨x,rfl,hx⟩,hr,hg⟩;clear ht;by_cases h1:n<1
 ·have hd:decide (n<1)=true:=kA7 h1;go_wp2;go_ret;exact⟨⟨0,rfl,kCT,kCT⟩,hr,hg⟩
 ·have hd:decide (n<1)=false:=kA8 h1;have hn1:(n=0)=False:=kCX
  go_wp2_with fail;have h3:0≤x % (n+1):=kBH _ kCT;have h4:x % (n+1)<n+1:=kBv _ kCT;have e:wrap64 (x % (n+1))=x % (n+1):=by generalize x % (n+1)=y at *;unfold wrap64;omega
  rw[e];go_ret;exact⟨⟨_,rfl,h3,kCT⟩,hr,hg⟩
theorem zEY (R N:Nat) (n:Int) (w:World) (hR:Rod w R N) (hN:N≤1000000) (hn:n≤1000000) (hn0:1≤n) :
  Calls Tryz.prog 47 #[.pointer (some ⟨R,0,none⟩),.int .i64 n] w fun e w'=>(∃x,e=.returned (.bool x))∧Rod w' R (N+1)∧w.grownBy w' (some R):=by
 have ht:=zDm R N (n-1) w hR hN kCT kCT;have hw:IntKind.i64.wrap (n-1)=n-1:=by simp[IntKind.wrap,IntKind.bits,IntKind.signed];omega
 go_enter Tryz.func47,Tryz.ntmps47;go_wp2_with fail;refine ht.mono ?_;rintro e w1 ⟨⟨x,rfl,hx⟩,hr,hg⟩;clear ht;go_wp2;go_ret;exact⟨⟨_,rfl⟩,hr,hg⟩
theorem zCh (R N:Nat) (lo hi:Int) (w:World) (hR:Rod w R N) (hN:N≤1000000) (h1:-1000≤lo) (h2:lo≤hi) (h3:hi≤1000) :
  Calls Tryz.prog 51 #[.pointer (some ⟨R,0,none⟩),.int .i64 lo,.int .i64 hi] w fun e w'=>(∃x,e=.returned (.int .i64 x)∧lo≤x∧x≤hi)∧Rod w' R (N+1)∧w.grownBy w' (some R):=by
 have ht:=zDm R N (hi-lo) w hR hN kCT kCT;have hw:IntKind.i64.wrap (hi-lo)=hi-lo:=by simp[IntKind.wrap,IntKind.bits,IntKind.signed];omega
 go_enter Tryz.func51,Tryz.ntmps51;go_wp2_with fail;refine ht.mono ?_;rintro e w1 ⟨⟨x,rfl,hx⟩,hr,hg⟩;clear ht;have hw2:IntKind.i64.wrap (lo+x)=lo+x:=by simp[IntKind.wrap,IntKind.bits,IntKind.signed];omega
 go_wp2;go_ret;exact⟨⟨_,rfl,kCT,kCT⟩,hr,hg⟩
structure Nums (w:World) (R:Nat) (A:Addr) (l:List Int):Prop where
 cells:∀i (h:i<l.length),w.cell? (A.add i)=some (.int .i64 l[i])
 ne:A.block≠R
theorem zCH (R N:Nat) (A:Addr) (l:List Int) (w:World) (hR:Rod w R N) (hN:N≤1000000) (hA:Nums w R A l) (hl0:0<l.length) (hl1:l.length≤1000) :
  Calls Tryz.prog 52 #[.pointer (some ⟨R,0,none⟩),.slice (some A) l.length l.length] w fun e w'=>(∃x,e=.returned (.int .i64 x)∧x∈l)∧Rod w' R (N+1)∧w.grownBy w' (some R):=by
 have ht:=zDm R N (l.length-1:Nat) w hR hN kCT kCT;have hw:IntKind.i64.wrap ((l.length:Int)-1)=((l.length-1:Nat):Int):=by simp[IntKind.wrap,IntKind.bits,IntKind.signed];omega
 generalize hm:l.length=m at *;go_enter Tryz.func52,Tryz.ntmps52;go_wp2_with fail;refine ht.mono ?_;rintro e w1 ⟨⟨x,rfl,hx0,hx1⟩,hr,hg⟩;clear ht;have hlt:x.toNat<l.length:=kCT
 have hc:=cell_grown hg (hA.cells x.toNat hlt) (by rw[zCG];exact hA.ne);have q1:(0≤x)=True:=kB7 hx0;have q2:(x<(m:Int))=True:=kB7 kCT;have hmem:l[x.toNat]∈l:=kAA hlt;generalize l[x.toNat]=y at *;go_wp2;go_ret;exact⟨⟨_,rfl,hmem⟩,hr,hg⟩
structure Strs (w:World) (R:Nat) (A:Addr) (l:List ByteArray):Prop where
 cells:∀i (h:i<l.length),w.cell? (A.add i)=some (.string l[i])
 ne:A.block≠R
theorem zCm (R N:Nat) (A:Addr) (l:List ByteArray) (w:World) (hR:Rod w R N) (hN:N≤1000000) (hA:Strs w R A l) (hl0:0<l.length) (hl1:l.length≤1000) :
  Calls Tryz.prog 31 #[.pointer (some ⟨R,0,none⟩),.slice (some A) l.length l.length] w fun e w'=>(∃x,e=.returned (.string x)∧x∈l)∧Rod w' R (N+1)∧w.grownBy w' (some R):=by
 have ht:=zDm R N (l.length-1:Nat) w hR hN kCT kCT;have hw:IntKind.i64.wrap ((l.length:Int)-1)=((l.length-1:Nat):Int):=by simp[IntKind.wrap,IntKind.bits,IntKind.signed];omega
 generalize hm:l.length=m at *;go_enter Tryz.func31,Tryz.ntmps31;go_wp2_with fail;refine ht.mono ?_;rintro e w1 ⟨⟨x,rfl,hx0,hx1⟩,hr,hg⟩;clear ht;have hlt:x.toNat<l.length:=kCT
 have hc:=cell_grown hg (hA.cells x.toNat hlt) (by rw[zCG];exact hA.ne);have q1:(0≤x)=True:=kB7 hx0;have q2:(x<(m:Int))=True:=kB7 kCT;have hmem:l[x.toNat]∈l:=kAA hlt;generalize l[x.toNat]=y at *;go_wp2;go_ret;exact⟨⟨_,rfl,hmem⟩,hr,hg⟩
theorem Rod.lt {w:World} {R N:Nat} (h:Rod w R N):R<w.heap.size:=by
 obtain⟨A,l,c,at_,st,h0,_⟩:=h.out;exact zA5 h0
theorem Rod.below {w w1:World} {R N:Nat} (h:Rod w R N) (hb:Below w.heap.size w w1):Rod w1 R N:=by
 obtain⟨A,l,c,at_,st,h0,h1,h2,hl,h3⟩:=h.out;refine⟨A,l,c,at_,st,zA9 hb h0,h1,h2,hl,fun i hi=>?_⟩;obtain⟨ad,x,e1,e2,e3⟩:=h3 i hi;exact⟨ad,x,e1,zA0 hb e2,e3⟩
theorem Rod.more {w:World} {R N M:Nat} (h:Rod w R N) (hm:N≤M):Rod w R M:=by
 obtain⟨A,l,c,at_,st,h0,h1,h2,hl,h3⟩:=h.out;exact⟨A,l,c,at_,st,h0,h1,kCT,hl,h3⟩
theorem zFn (w:World) (R:Nat) (l:List ByteArray) (hR:R<w.heap.size):Strs (w.alloc (.cells (l.map Value.string).toArray 9)) R ⟨w.heap.size,0,none⟩ l:=by
 refine⟨fun i hi=>?_,by show w.heap.size≠R;omega⟩;have hb:=zA4 w (.cells (l.map Value.string).toArray 9);rw[zC7];have:=zA1 hb i;rw[this];simp[hi]
theorem zEs (w:World) (R:Nat) (l:List Int) (hR:R<w.heap.size):Nums (w.alloc (.cells (l.map (Value.int .i64)).toArray 3)) R ⟨w.heap.size,0,none⟩ l:=by
 refine⟨fun i hi=>?_,by show w.heap.size≠R;omega⟩;have hb:=zA4 w (.cells (l.map (Value.int .i64)).toArray 3);rw[zC7];have:=zA1 hb i;rw[this];simp[hi]
abbrev zFP:List ByteArray:=[⟨#[97]⟩,⟨#[98]⟩,⟨#[120]⟩,⟨#[121,49]⟩,⟨#[105]⟩]
theorem size28':(Tryz.prog.info? 28).map (·.size)=some 2:=kCU
def decS (n:Int):ByteArray:=(metewandkit_Decimal.f 5 n).getD ⟨#[]⟩
def ratS (p q:Int):S28:=⟨decS (p / (Int.gcd p q:Int)),decS (q / (Int.gcd p q:Int))⟩
theorem dec_some:∀n:Int,0≤n→n≤20→(metewandkit_Decimal.f 5 n).isSome=true∧(decS n).size≤2:=by
 intro n h0 h1;have:n=0∨n=1∨n=2∨n=3∨n=4∨n=5∨n=6∨n=7∨n=8∨n=9∨n=10∨n=11∨n=12∨n=13∨n=14∨n=15∨n=16∨n=17∨n=18∨n=19∨n=20:=kCT
 rcases this with rfl | rfl | rfl | rfl | rfl | rfl | rfl | rfl | rfl | rfl | rfl | rfl | rfl | rfl | rfl | rfl | rfl | rfl | rfl | rfl | rfl
 all_goals exact⟨kCU,kAl kCU⟩
theorem dec_f (n:Int) (h0:0≤n) (h1:n≤20):metewandkit_Decimal.f 5 n=some (decS n):=by
 obtain⟨r,h⟩:=kC3.1 (dec_some n h0 h1).1;rw[h];unfold decS;rw[h];rfl
theorem dec_calls (n:Int) (h0:0≤n) (h1:n≤20) (w:World):Calls Tryz.prog 86 #[.int .i64 n] w fun e w'=>e=.returned (.string (decS n))∧Below w.heap.size w w' :=
 metewandkit_Decimal.calls 5 n _ w (dec_f n h0 h1)
theorem gcdU_step (a b:Int) (ha:0≤a) (hb:0≤b):Int.gcd b (a.tmod b)=Int.gcd a b:=by
 obtain⟨m,rfl⟩:=kBN ha;obtain⟨n,rfl⟩:=kBN hb;rw[← Int.ofNat_tmod,Int.gcd_natCast_natCast,Int.gcd_natCast_natCast,Nat.gcd_comm n,← Nat.gcd_rec,Nat.gcd_comm]
theorem zG9 (p q:Int) (hp0:0≤p) (hp1:p≤20) (hq0:1≤q) (hq1:q≤6) (w:World) :
  Calls Tryz.prog 50 #[.int .i64 p,.int .i64 q] w fun e w'=>e=.returned (.agg #[.string (ratS p q).f0,.string (ratS p q).f1])∧Below w.heap.size w w':=by
 have hneg:decide (p<0)=false:=kA8 kCT;have h0:=zA4 w (.cells #[.string ⟨#[]⟩,.string ⟨#[]⟩] 28);have hb0:=(kA3 w.heap.size w).alloc (kA2 _) (.cells #[.string ⟨#[]⟩,.string ⟨#[]⟩] 28);go_enter Tryz.func50,Tryz.ntmps50;go_wp2_with fail;generalize w.alloc (.cells #[.string ⟨#[]⟩,.string ⟨#[]⟩] 28)=X at *;go_loopg [5,6] 7 (fun k v5 v6 wr=>∃a b:Int,v5=.int .i64 a∧v6=.int .i64 b∧0≤a∧a≤20∧0≤b∧b<k∧b≤20∧Hid (Int.gcd a b=Int.gcd p q)∧∃n,wr=X.drewN n)
 case atStart=>exact⟨p,q,rfl,rfl,hp0,hp1,kCT,kCT,kCT,kA1 rfl,0,rfl⟩
 case round =>
  obtain⟨a,b,rfl,rfl,ha0,ha1,hb0',hb1,hb2,HG,n,rfl⟩:=hrel;by_cases hz:b=0
  ·have hzb:(b != 0)=false:=by rw[hz];rfl
   have BX:Below w.heap.size w (X.drewN n):=zA3 hb0 n;have hX:(X.drewN n).heap[w.heap.size]?=some (.cells #[.string ⟨#[]⟩,.string ⟨#[]⟩] 28 (0,0)):=zAS h0 n;generalize X.drewN n=Y at *;have hX:Y.drew.heap[w.heap.size]?=some (.cells #[.string ⟨#[]⟩,.string ⟨#[]⟩] 28 (0,0)):=hX;have BX:=BX.drew;have tr:True:=trivial;have HP:=kA1 (fun (c:Int) (hc:1≤c) w=>(by
    have e1:=kBr (b:=c) hp0;have e2:=kBQ hp0 (show 0≤c by omega);have e3:=Int.le_trans (kCK c hp0) hp1;have e4:IntKind.i64.wrap (p.tdiv c)=p / c:=by rw[e1];generalize p / c=z at *;simp[IntKind.wrap,IntKind.bits,IntKind.signed];omega
    rw[e4];exact dec_calls (p / c) e2 e3 w:Calls Tryz.prog 86 #[.int .i64 (IntKind.i64.wrap (p.tdiv c))] w fun e w'=>e=.returned (.string (decS (p / c)))∧Below w.heap.size w w'))
   have HQ:=kA1 (fun (c:Int) (hc:1≤c) w=>(by
    have hq0':0≤q:=kCT
    have e1:=kBr (b:=c) hq0';have e2:=kBQ hq0' (show 0≤c by omega);have e3:=Int.le_trans (kCK c hq0') (show q≤20 by omega);have e4:IntKind.i64.wrap (q.tdiv c)=q / c:=by rw[e1];generalize q / c=z at *;simp[IntKind.wrap,IntKind.bits,IntKind.signed];omega
    rw[e4];exact dec_calls (q / c) e2 e3 w:Calls Tryz.prog 86 #[.int .i64 (IntKind.i64.wrap (q.tdiv c))] w fun e w'=>e=.returned (.string (decS (q / c)))∧Below w.heap.size w w'))
   have hga:(Int.gcd p q:Int)=a:=by
    have:=HG.out;rw[hz,Int.gcd_zero_right] at this;omega
   have hg1:1≤a:=by
    have:0<Int.gcd p q:=Int.gcd_pos_of_ne_zero_right _ kCT;omega
   have HGA:=kA1 hga;clear hga;have ha:¬a<1:=kCT
   have hab:decide (a<1)=false:=kA8 ha;have HP:=HP.out a kCT;have HQ:=HQ.out a kCT;have hz1:(a=0)=False:=kCX
   have hz2:(a==0)=false:=zAF kCT;have HP:=kA1 HP;have HQ:=kA1 HQ;go_wp2_with fail
   go_region_held3 (fun _:World=>True) (first | exact tr) (first
    | (go_at_call 86;refine (HP.out _).mono ?_;rintro e wq ⟨rfl,hq⟩;clear HP;have hX:=zA9 hq hX;have BX:=BX.trans (hq.mono BX.size))
    | (go_at_call 86;refine (HQ.out _).mono ?_;rintro e wr ⟨rfl,hq⟩;clear HQ;have hX:=zA9 hq hX;have BX:=BX.trans (hq.mono BX.size);have c0:=zA1 hX 0;have c1:=zA1 hX 1;have e0:=zA2 hX 0;have e1:=zA2 hX 1))
   go_wp2;exact kAi (zAg Tryz.results50 _ _ w.heap.size 28 _ (0,0) _ rfl (zA7 (zA7 hX 0 _) 1 _) Tryz.underlying28 rfl size28') rfl ⟨by unfold ratS;rw[HGA.out];rfl,(BX.setCell (p:=⟨w.heap.size,0,none⟩) (kA2 _) _).setCell (p:=⟨w.heap.size,1,none⟩) (kA2 _) _⟩
  ·have hzb:(b != 0)=true:=kCR.2 hz;have hz1:(b=0)=False:=kCX
   have hz2:(b==0)=false:=zAF kCT;have tr:True:=trivial;go_wp2_with fail
   go_region_held3 (fun _:World=>True) (first | exact tr) (fail)
   go_wp2_with fail;have m0:0≤a.tmod b:=Int.tmod_nonneg b ha0;have m1:a.tmod b<b:=Int.tmod_lt_of_pos a kCT;go_roundg (gk-1)
   case measure=>omega
   case rel=>exact⟨b,a.tmod b,rfl,rfl,kCT,kCT,m0,kCT,kCT,kA1 ((gcdU_step a b ha0 hb0').trans HG.out),n+1,rfl⟩
abbrev eB:ByteArray:=⟨#[]⟩
abbrev callL:List ByteArray:=[⟨#[102]⟩,⟨#[103]⟩,⟨#[104,50]⟩]
abbrev zFw:List ByteArray:=[⟨#[]⟩,⟨#[]⟩,⟨#[109]⟩,⟨#[107,109,47,104]⟩,⟨#[109,32,115,94,45,50]⟩]
abbrev opL:List Int:=[2,3,4,5,6,3,5,7,8,9,10,11,12,13,14]
def nodeOk (op:Int) (name:ByteArray) (size:Int) (k:Nat):Prop :=
 (op=2∧name=eB∧size=0∧k=1)∨((op=3∨op=4∨op=5∨op=6∨op=9)∧name=eB∧size=0∧k=2)∨(op=7∧name=eB∧(-9≤size∧size≤9)∧k=1) ∨
 (op=8∧name=eB∧size=0∧(1≤k∧k≤3))∨((op=10∨op=11)∧name∈zFP∧(1≤size∧size≤99)∧k=1)∨(op=12∧name=eB∧size=0∧k=4) ∨
 (op=13∧name∈zFP∧size=0∧k=2)∨(op=14∧name∈callL∧size=0∧k≤3)
inductive Made:Nat→S31→Prop
 | ref (n:Nat) (s:ByteArray) (h:s∈zFP):Made n ⟨1,z28,s,0,[]⟩
 | lit (n:Nat) (p q:Int) (u:ByteArray) (h0:0≤p) (h1:p≤20) (h2:1≤q) (h3:q≤6) (hu:u∈zFw):Made n ⟨0,ratS p q,u,0,[]⟩
 | node (n:Nat) (op:Int) (name:ByteArray) (size:Int) (l:List S31) (h:nodeOk op name size l.length) (hl:∀y∈l,Made n y):Made (n+1) ⟨op,z28,name,size,l⟩
def cost:Nat→Nat
 | 0=>6
 | n+1=>6+4*cost n
theorem cost_pos (n:Nat):6≤cost n:=by cases n<;>simp[cost]
def zFr (R N n:Nat) (w:World) (e:Ending) (w':World):Prop :=
 ∃x v,e=.returned v∧Made n x∧Ex w' (From w.heap.size) x v∧Rod w' R (N+cost n)∧w.grownBy w' (some R)
theorem Rod.far {w w1:World} {R N:Nat} {row:Option Nat} (h:Rod w R N) (hg:w.grownBy w1 row) (hr:∀b,row=some b→R<b):Rod w1 R N:=by
 obtain⟨A,l,c,at_,st,h0,h1,h2,hl,h3⟩:=h.out;have hlt:=zA5 h0;refine⟨A,l,c,at_,st,(hg.block R hlt (fun e=>by have:=hr R e.symm;omega)).trans h0,h1,h2,hl,fun i hi=>?_⟩;obtain⟨ad,x,e1,e2,e3⟩:=h3 i hi;refine⟨ad,x,e1,?_,e3⟩;have hb:=hg.block (ad.add i).block (kAE w _ e2) (fun e=>by rw[zCG] at e;have:=hr _ e.symm;omega);simpa[World.cell?,hb] using e2
theorem zCo {w w1 w2:World} {k row:Option Nat} (h:w.grownBy w1 k) (g:w1.grownBy w2 row) (hr:∀b,row=some b→w.heap.size≤b):w.grownBy w2 k :=
 ⟨g.os.trans h.os,g.tape.trans h.tape,g.output.trans h.output,kAB h.size g.size,fun j hj hn=>(g.block j (kBa hj h.size) (fun e=>by have:=hr j e.symm;omega)).trans (h.block j hj hn)⟩
theorem zEn (R N:Nat) (w:World) (hR:Rod w R N) (hN:N≤1000000) :
  Calls Tryz.prog 49 #[.pointer (some ⟨R,0,none⟩)] w fun e w'=>(∃x,e=.returned (.string x)∧x∈zFP)∧Rod w' R (N+1)∧w.grownBy w' (some R):=by
 have hb:=(kA3 w.heap.size w).alloc (kA2 _) (.cells (zFP.map Value.string).toArray 9);have hp:=zCm R N ⟨w.heap.size,0,none⟩ zFP _ (hR.below hb) hN (zFn w R zFP hR.lt) kCW kCW;go_enter Tryz.func49,Tryz.ntmps49;go_wp2_with fail;refine hp.mono ?_;rintro e w1 ⟨⟨x,rfl,hx⟩,hr,hg⟩;have hx:=kA1 hx;clear hp;go_wp2;go_ret;exact⟨⟨_,rfl,hx.out⟩,hr,kA6 (kAC w _ (some R)) hg⟩
theorem zG7 (s:ByteArray) (w:World) :
  Calls Tryz.prog 48 #[.string s] w fun e w'=>e=.returned (exV ⟨1,z28,s,0,[]⟩ (.slice none 0 0))∧Below w.heap.size w w':=by
 go_enter Tryz.func48,Tryz.ntmps48;go_wp2;exact kAi (zAg Tryz.results48 _ _ w.heap.size 31 _ (0,0) _ rfl (zA4 w _) Tryz.underlying31 rfl zAV) rfl ⟨rfl,(kA3 _ w).alloc (kA2 _) _⟩
structure Grow (w:World) (R X M n:Nat) (op:Int) (name:ByteArray) (size:Int) (xs:List S31) (wr:World) (v5:Value):Prop where
 res:wr.heap[w.heap.size]?=some zO
 blk:wr.heap[X]?=some (.cells #[.int .i64 op,.string ⟨#[]⟩,.string ⟨#[]⟩,.string name,.int .i64 size,v5] 31 (0,0))
 row:k31.R 31 wr 0 (Sx w X) v5 xs
 rod:Rod wr R M
 low:w.grownBy wr (some R)
 far:w.heap.size<X
 own:R<w.heap.size
 all:∀y∈xs,Made n y
theorem Grow.below {w:World} {R X M n:Nat} {op:Int} {name:ByteArray} {size:Int} {xs:List S31} {wr w1:World} {v5:Value} (G:Grow w R X M n op name size xs wr v5) (hb:Below wr.heap.size wr w1):Grow w R X M n op name size xs w1 v5 :=
 ⟨zA9 hb G.res,zA9 hb G.blk,Kd.R_below G.row hb,G.rod.below hb,kAe G.low hb,G.far,G.own,G.all⟩
theorem Grow.next {w:World} {R X M n:Nat} {op:Int} {name:ByteArray} {size:Int} {xs:List S31} {wr w2 w4:World} {v5 v1:Value} {y:S31} (G:Grow w R X M n op name size xs wr v5) (hy:Made n y) (r2:Rod w2 R (M+cost n)) (g2:wr.grownBy w2 (some R))
  (hrow:k31.R 31 w4 0 (Sx w X) v1 (xs++[y])) (hg4:w2.grownBy w4 v5.ownBlock) :
  w4.heap[X]?=some (.cells #[.int .i64 op,.string ⟨#[]⟩,.string ⟨#[]⟩,.string name,.int .i64 size,v5] 31 (0,0))∧Grow w R X (M+cost n) n op name size (xs++[y]) (w4.setCell ⟨X,5,none⟩ v1) v1:=by
 have own:=G.own;have far:=G.far;have hb5:∀b,v5.ownBlock=some b→w.heap.size<b∧b≠X:=fun b hb=>G.row.1 b hb
 have x2:=zAe g2 G.blk (show X≠R by omega);have z2:=zAe g2 G.res (show w.heap.size≠R by omega);have x4:=(hg4.block X (zA5 x2) (fun e=>(hb5 X e.symm).2 rfl)).trans x2;have z4:=(hg4.block w.heap.size (zA5 z2) (fun e=>by have:=(hb5 _ e.symm).1;omega)).trans z2;refine⟨x4,(kA5 _ _ _ _ kDc).trans z4,zA7 x4 5 v1,Kd.R_far hrow (p:=⟨X,5,none⟩) (fun k hk=>hk.2) v1,
  (r2.far hg4 (fun b e=>by have:=(hb5 b e).1;omega)).far (kAf _ _ _ _) (fun b e=>by injection e with e;omega),
  zCo (zCo (kA6 G.low g2) hg4 (fun b e=>by have:=(hb5 b e).1;omega)) (kAf _ _ _ _) (fun b e=>by injection e with e;omega),far,own,fun z hz=>?_⟩
 rcases kC2.1 hz with hz | hz
 ·exact G.all z hz
 ·rw[kBu.1 hz];exact hy
theorem Rod.put {w:World} {R N X:Nat} (h:Rod w R N) (hX:R<X) (i:Nat) (v:Value):Rod (w.setCell ⟨X,i,none⟩ v) R N:=h.far (kAf _ _ _ _) (fun b e=>by injection e with e;omega)
theorem zCL {w w1:World} {R X:Nat} (h:w.grownBy w1 (some R)) (hX:w.heap.size≤X) (i:Nat) (v:Value):w.grownBy (w1.setCell ⟨X,i,none⟩ v) (some R):=zFU h ⟨X,i,none⟩ hX v
theorem toNat_val {x:Int} (h:0≤x):Value.int .i64 x=.int .i64 (x.toNat:Nat):=by rw[kC6 h]
theorem zFO {op:Int} {name:ByteArray} {size:Int} {k:Nat} (h:nodeOk op name size k):k≤4:=by
 rcases h with h | h | h | h | h | h | h | h<;>omega
theorem ExprOf_leaf (R N:Nat) (w:World) (hR:Rod w R N) (hN:N≤900000) (n:Int) (hn:n<2) :
  Calls Tryz.prog 13 #[.pointer (some ⟨R,0,none⟩),.int .i64 n] w (zFr R N 0 w):=by
 have hRl:=hR.lt;have b0:=(kA3 w.heap.size w).alloc (kA2 _) zO;have rq:=hR.below b0;have zq:(w.alloc zO).heap[w.heap.size]?=some zO:=zA4 w zO;have gq:w.grownBy (w.alloc zO) (some R):=kAC w _ _;have hd:decide (n<2)=true:=kA7 hn;have hc0:cost 0=6:=rfl;clear hR;go_enter Tryz.func13,Tryz.ntmps13;go_wp2_with fail;have HO:=zEY R (N) 2 _ rq kCT kCT kCT;refine HO.mono ?_;rintro e w1 ⟨⟨y,rfl⟩,r1,g1⟩;have z1:=zAe g1 zq kCT;have g1:=kA6 gq g1;clear HO rq zq gq
 cases y with
 | true =>
  have HN:=zEn R (N+1) _ r1 kCT;go_wp2_with fail;refine HN.mono ?_;rintro e w2 ⟨⟨s,rfl,hs⟩,r2,g2⟩;have hs:=kA1 hs;have z2:=zAe g2 z1 kCT;have g2:=kA6 g1 g2;clear HN;go_wp2_with fail;refine (zG7 s _).mono ?_;rintro e w3 ⟨rfl,hb3⟩;have z3:=zA9 hb3 z2;have r3:=r2.below hb3;have g3:=kAe g2 hb3;obtain⟨⟨q0,q1,q2,q3,q4,q5⟩,⟨f0,f1,f2,f3,f4,f5⟩,xl2⟩:=zA6 z3;unfold exV;go_wp2;exact kAi (zAg Tryz.results13 _ _ w.heap.size 31 _ (0,0) _ rfl (fin6 _ _ _ _ _ _ z3) Tryz.underlying31 rfl zAV) rfl
   ⟨⟨1,z28,s,0,[]⟩,_,rfl,.ref _ s hs.out,Ex.leaf (w:=set6 w3 w.heap.size _ _ _ _ _ _) _ rfl,((r3.more kCT).far (zCq _ _ _ _ _ _ _) (fun b e=>by injection e with e;omega)),zCo g3 (zCq _ _ _ _ _ _ _) (fun b e=>by injection e with e;omega)⟩
 | false =>
  have HU:=zDm R (N+1) 20 _ r1 kCT kCT kCT;go_wp2_with fail;refine HU.mono ?_;rintro e w2 ⟨⟨p,rfl,hp0,hp1⟩,r2,g2⟩;have z2:=zAe g2 z1 kCT;have g2:=kA6 g1 g2;clear HU r1 z1 g1;go_wp2_with fail;have hbA:=(kA3 w2.heap.size w2).alloc (kA2 _) (.cells (([1,1,6]:List Int).map (Value.int .i64)).toArray 3);refine (zCH R (N+2) ⟨w2.heap.size,0,none⟩ [1,1,6] _ (r2.below hbA) kCT (zEs w2 R [1,1,6] r2.lt) kCW kCW).mono ?_;rintro e w3 ⟨⟨q0,rfl,hq⟩,r3,g3⟩;have hq:1≤q0∧q0≤6:=by simp at hq;omega
  have z3:=zAe g3 (zA9 hbA z2) kCT;have g3:=kA6 (kAe g2 hbA) g3;obtain⟨hq1,hq2⟩:=hq;clear hbA r2 z2 g2;go_wp2_with fail;refine (zCh R (N+3) 1 q0 _ r3 kCT kCT kCT kCT).mono ?_;rintro e w4 ⟨⟨q,rfl,hq3,hq4⟩,r4,g4⟩;have z4:=zAe g4 z3 kCT;have g4:=kA6 g3 g4;clear r3 z3 g3;go_wp2_with fail;refine (zG9 p q hp0 hp1 hq3 kCT _).mono ?_;rintro e w5 ⟨rfl,hb5⟩;have z5:=zA9 hb5 z4;have r5:=r4.below hb5;have g5:=kAe g4 hb5;clear r4 z4 g4;go_wp2_with fail;have hbB:=(kA3 w5.heap.size w5).alloc (kA2 _) (.cells (zFw.map Value.string).toArray 9);refine (zCm R (N+4) ⟨w5.heap.size,0,none⟩ zFw _ (r5.below hbB) kCT (zFn w5 R zFw r5.lt) kCW kCW).mono ?_;rintro e w6 ⟨⟨u,rfl,hu⟩,r6,g6⟩;have hu:=kA1 hu;have z6:=zAe g6 (zA9 hbB z5) kCT;have g6:=kA6 (kAe g5 hbB) g6;clear hbB r5 z5 g5;obtain⟨⟨q0',q1',q2',q3',q4',q5'⟩,⟨f0,f1,f2,f3,f4,f5⟩,xl2⟩:=zA6 z6;go_wp2;exact kAi (zAg Tryz.results13 _ _ w.heap.size 31 _ (0,0) _ rfl (fin6 _ _ _ _ _ _ z6) Tryz.underlying31 rfl zAV) rfl
   ⟨⟨0,ratS p q,u,0,[]⟩,_,rfl,.lit _ p q u hp0 hp1 hq3 kCT hu.out,Ex.leaf (w:=set6 w6 w.heap.size _ _ _ _ _ _) _ rfl,((r6.more kCT).far (zCq _ _ _ _ _ _ _) (fun b e=>by injection e with e;omega)),zCo g6 (zCq _ _ _ _ _ _ _) (fun b e=>by injection e with e;omega)⟩
def nodeG (op:Int) (num:S28) (name:ByteArray) (size:Int) (k:Nat):Prop :=
 (op=0∧chkR num=0∧negB num.f0=false∧(name=eB∨zCw name=true)∧size=0∧k=0) ∨
 (op=1∧num=z28∧zC0 name=true∧size=0∧k=0)∨(op=2∧num=z28∧name=eB∧size=0∧k=1) ∨
 ((op=3∨op=4∨op=5∨op=6∨op=9)∧num=z28∧name=eB∧size=0∧k=2)∨(op=7∧num=z28∧name=eB∧(-9≤size∧size≤9)∧k=1) ∨
 (op=8∧num=z28∧name=eB∧size=0∧(1≤k∧k≤8))∨((op=10∨op=11)∧num=z28∧zC0 name=true∧(1≤size∧size≤99)∧k=1) ∨
 (op=12∧num=z28∧name=eB∧size=0∧k=4)∨(op=13∧num=z28∧zC0 name=true∧size=0∧k=2)∨(op=14∧num=z28∧zC0 name=true∧size=0∧k≤8)
theorem look_node {op:Int} {num:S28} {name:ByteArray} {size:Int} {l:List S31} (h:nodeG op num name size l.length):zDC ⟨op,num,name,size,l⟩=0:=by
 unfold zDC midE tailE zDF;simp only;generalize l.length=k at *;rcases h with⟨rfl,h1,h2,h3,rfl,rfl⟩ | ⟨rfl,rfl,hn,rfl,rfl⟩ | ⟨rfl,rfl,rfl,rfl,rfl⟩ | ⟨ho,rfl,rfl,rfl,rfl⟩ | ⟨rfl,rfl,rfl,⟨hs0,hs1⟩,rfl⟩ | ⟨rfl,rfl,rfl,rfl,hk0,hk1⟩ | ⟨ho,rfl,hn,⟨hs0,hs1⟩,rfl⟩ | ⟨rfl,rfl,rfl,rfl,rfl⟩ | ⟨rfl,rfl,hn,rfl,rfl⟩ | ⟨rfl,rfl,hn,rfl,hk⟩
 ·rw[h1,h2];rcases h3 with rfl | h3
  ·simp[zAL,zAN,zAw,zAx]
  ·simp[zAL,zAN,zAw,zAx,h3]
 ·simp[zAL,zAN,zAw,zAx,hn]
 ·simp[zAL,zAN,zAw,zAx]
 ·rcases ho with rfl | rfl | rfl | rfl | rfl<;>simp[zAL,zAN,zAw,zAx]
 ·simp[zAL,zAN,zAw,zAx];omega
 ·simp[zAL,zAN,zAw,zAx];omega
 ·rcases ho with rfl | rfl<;>(simp[zAL,zAN,zAw,zAx,hn];omega)
 ·simp[zAL,zAN,zAw,zAx]
 ·simp[zAL,zAN,zAw,zAx,hn]
 ·simp[zAL,zAN,zAw,zAx,hn];omega
theorem zEr {x:S31} (h:zDC x=0):nodeG x.f0 x.f1 x.f2 x.f3 x.f4.length:=by
 obtain⟨op,num,name,size,l⟩:=x;unfold zDC midE tailE zDF at h;simp only at h⊢;generalize l.length=k at *;by_cases h0:op<0∨14<op
 ·rw[kAa h0] at h;cases h
 rw[kA9 h0] at h;by_cases h1:(k:Int)<zAL op
 ·rw[kAa h1] at h;cases h
 rw[kA9 h1] at h;by_cases h2:zAN op<(k:Int)
 ·rw[kAa h2] at h;cases h
 rw[kA9 h2] at h;have hop:op=0∨op=1∨op=2∨op=3∨op=4∨op=5∨op=6∨op=7∨op=8∨op=9∨op=10∨op=11∨op=12∨op=13∨op=14:=kCT
 unfold nodeG;rcases hop with rfl | rfl | rfl | rfl | rfl | rfl | rfl | rfl | rfl | rfl | rfl | rfl | rfl | rfl | rfl
 all_goals
  simp[zAL,zAN] at h1 h2;simp[zAw,zAx] at h
 ·obtain⟨a,b,c,d,e⟩:chkR num=0∧negB num.f0=false∧(name=eB∨zCw name=true)∧size=0∧k=0:=by
   by_cases c1:chkR num=0
   ·rw[kAa c1] at h
    cases c2:negB num.f0
    ·rw[c2] at h;simp only[kBY,if_false] at h;refine⟨c1,rfl,?_,?_,kCT⟩
     ·by_cases c3:name=eB
      ·exact .inl c3
      ·cases c4:zCw name
       ·rw[kAa ⟨c3,c4⟩] at h;cases h
       ·exact .inr rfl
     ·by_cases c3:¬name=eB∧zCw name=false
      ·rw[kAa c3] at h;cases h
      ·rw[kA9 c3] at h;omega
    ·rw[c2] at h;simp at h
   ·rw[kA9 c1] at h;exact absurd h c1
  simp[a,b,c,d,e]
 all_goals
  by_cases c1:num=z28
  ·subst c1;simp at h;by_cases c2:name=eB
   ·subst c2
    try simp at h
    try simp
    first
     | done
     | omega
     | (cases c3:zC0 eB<;>simp[c3] at h<;>simp<;>omega)
   ·try simp[c2] at h
    try simp
    try (cases c3:zC0 name<;>simp[c3] at h<;>simp[c2]<;>omega)
  ·simp[c1] at h
theorem ok_of {op:Int} {num:S28} {name:ByteArray} {size:Int} {l:List S31} (h:nodeG op num name size l.length) (hl:∀a∈l,OkX a):OkX ⟨op,num,name,size,l⟩:=⟨_,look_node h,hl⟩
abbrev sgTk (c:UInt8):Tk:=(4,⟨#[c]⟩)
def zDj (lv want:Int) (t:List Tk):List Tk:=if lv<want then sgTk 40 :: (t++[sgTk 41]) else t
def zBp (ts:List (Int×List Tk)) (i:Nat) (want:Int):List Tk:=zDj (ts.getD i (0,[])).1 want (ts.getD i (0,[])).2
def zBH:List (List Tk)→List Tk
 | []=>[]
 | [t]=>t
 | t :: u :: ts=>t++sgTk 44 :: zBH (u :: ts)
def zBs (n:Int):List Tk:=if n<0 then [sgTk 45,(2,ofR (-n))] else [(2,ofR n)]
def litTk (num:S28) (name:ByteArray):List Tk:=(2,num.f0) :: ((if num.f1.toList == [49] then [] else [sgTk 124,(2,num.f1)])++(if name.toList == [] then [] else [(3,name)]))
def openTOk (op:Int) (num:S28) (name:ByteArray) (size:Int) (ts:List (Int×List Tk)):List Tk :=
 if op=0 then litTk num name else
 if op=1 then [(0,name)] else
 if op=2 then sgTk 45 :: zBp ts 0 2 else
 if op=3 then zBp ts 0 1++sgTk 43 :: zBp ts 1 2 else
 if op=4 then zBp ts 0 1++sgTk 45 :: zBp ts 1 2 else
 if op=5 then zBp ts 0 2++sgTk 42 :: zBp ts 1 3 else
 if op=6 then zBp ts 0 2++sgTk 47 :: zBp ts 1 3 else
 if op=7 then zBp ts 0 4++sgTk 94 :: zBs size else
 if op=9 then zBp ts 0 4++sgTk 91 :: (zBp ts 1 0++[sgTk 93]) else
 if op=10 then (1,⟨#[116,97,98]⟩) :: (0,name) :: sgTk 60 :: (zBs size++sgTk 46 :: zBp ts 0 0) else
 if op=11 then (1,⟨#[115,117,109]⟩) :: (0,name) :: sgTk 60 :: (zBs size++sgTk 46 :: zBp ts 0 0) else
 if op=12 then (1,⟨#[105,102]⟩) :: (zBp ts 0 1++sgTk 60 :: (zBp ts 1 1++(1,⟨#[116,104,101,110]⟩) :: (zBp ts 2 0++(1,⟨#[101,108,115,101]⟩) :: zBp ts 3 0))) else
 if op=13 then (1,⟨#[108,101,116]⟩) :: (0,name) :: sgTk 61 :: (zBp ts 0 0++(1,⟨#[105,110]⟩) :: zBp ts 1 0) else
 if op=8 then sgTk 91 :: (zBH (ts.map fun p=>zDj p.1 0 p.2)++[sgTk 93]) else
 (0,name) :: sgTk 40 :: (zBH (ts.map fun p=>zDj p.1 0 p.2)++[sgTk 41])
mutual
def zAm:S31→List Tk
 | ⟨op,num,name,size,l⟩=>openTOk op num name size (zBX l)
def zBX:List S31→List (Int×List Tk)
 | []=>[]
 | x :: l=>(levR x.f0,zAm x) :: zBX l
end
def tkTk (x:S31) (want:Int):List Tk:=zDj (levR x.f0) want (zAm x)
theorem zDU:∀l:List S31,(zBX l).map (fun p=>zDj p.1 0 p.2)=l.map (fun y=>tkTk y 0)
 | []=>rfl
 | x :: l=>by
  unfold zBX;rw[kAo,kAo,zDU l];rfl
theorem lev_pos (op:Int):0≤levR op:=by
 unfold levR
 repeat' split
 all_goals omega
theorem zC1 (x:S31):tkTk x 0=zAm x:=by
 unfold tkTk zDj;rw[kA9 (by have:=lev_pos x.f0;omega)]
theorem zDJ {x:S31} {want:Int} (h:levR x.f0<want):tkTk x want=sgTk 40 :: (tkTk x 0++[sgTk 41]):=by
 rw[zC1];unfold tkTk zDj;rw[kAa h]
theorem zD4 {x:S31} {want:Int} (h:want≤levR x.f0):tkTk x want=zAm x:=by
 unfold tkTk zDj;rw[kA9 kCT]
def Sees (st:Nat→Tk):Nat→List Tk→Prop
 | _,[]=>True
 | n,t :: l=>st n=t∧Sees st (n+1) l
theorem zBt {st:Nat→Tk}:∀(a b:List Tk) (n:Nat),Sees st n (a++b)↔Sees st n a∧Sees st (n+a.length) b:=by
 intro a
 induction a with
 | nil=>intro b n;simp[Sees]
 | cons t a ih =>
  intro b n;simp only[List.cons_append,Sees,ih,List.length_cons];rw[show n+1+a.length=n+(a.length+1) by omega];exact⟨fun⟨h1,h2,h3⟩=>⟨⟨h1,h2⟩,h3⟩,fun⟨⟨h1,h2⟩,h3⟩=>⟨h1,h2,h3⟩⟩
def skT (t:Tk) (x:ByteArray):Bool:=(t.1==4||t.1==1)&&t.2.data.toList==x.data.toList
theorem zB1 (st:Nat→Tk) (n:Nat) (x:ByteArray):skI st n x=skT (st n) x:=by
 unfold skI skT;rw[kAR,kAR]
theorem skT_sg (c d:UInt8):skT (sgTk c) ⟨#[d]⟩=(c==d):=by simp[skT]
structure NA (t:Tk):Prop where
 unit:t.1≠3
 par:skT t ⟨#[40]⟩=false
 bar:skT t ⟨#[124]⟩=false
structure NP (t:Tk):Prop extends NA t where
 br:skT t ⟨#[91]⟩=false
 pow:skT t ⟨#[94]⟩=false
structure ND (t:Tk):Prop extends NP t where
 mul:skT t ⟨#[42]⟩=false
 div:skT t ⟨#[47]⟩=false
structure NS (t:Tk):Prop extends ND t where
 add:skT t ⟨#[43]⟩=false
 sub:skT t ⟨#[45]⟩=false
theorem ns_sg (c:UInt8) (h:c≠40∧c≠124∧c≠91∧c≠94∧c≠42∧c≠47∧c≠43∧c≠45):NS (sgTk c):=by
 obtain⟨h1,h2,h3,h4,h5,h6,h7,h8⟩:=h;refine⟨⟨⟨⟨by show (4:Int)≠3;decide,?_,?_⟩,?_,?_⟩,?_,?_⟩,?_,?_⟩
 all_goals (rw[skT_sg,kAd];assumption)
theorem nd_sg (c:UInt8) (h:c≠40∧c≠124∧c≠91∧c≠94∧c≠42∧c≠47):ND (sgTk c):=by
 obtain⟨h1,h2,h3,h4,h5,h6⟩:=h;refine⟨⟨⟨by show (4:Int)≠3;decide,?_,?_⟩,?_,?_⟩,?_,?_⟩
 all_goals (rw[skT_sg,kAd];assumption)
theorem np_sg (c:UInt8) (h:c≠40∧c≠124∧c≠91∧c≠94):NP (sgTk c):=by
 obtain⟨h1,h2,h3,h4⟩:=h;refine⟨⟨by show (4:Int)≠3;decide,?_,?_⟩,?_,?_⟩
 all_goals (rw[skT_sg,kAd];assumption)
theorem na_sg (c:UInt8) (h:c≠40∧c≠124):NA (sgTk c):=by
 obtain⟨h1,h2⟩:=h;refine⟨by show (4:Int)≠3;decide,?_,?_⟩
 all_goals (rw[skT_sg,kAd];assumption)
theorem skT_word (w:ByteArray) (c:UInt8) (h:w.data.toList≠[c]):skT (1,w) ⟨#[c]⟩=false:=by
 unfold skT;rw[kAQ];exact .inr (by rw[kAd];exact h)
theorem ns_word (w:ByteArray) (h:1<w.data.toList.length):NS (1,w):=by
 have:∀c,skT (1,w) ⟨#[c]⟩=false:=fun c=>skT_word w c (fun e=>by rw[e] at h;simp at h)
 exact⟨⟨⟨⟨by show (1:Int)≠3;decide,this _,this _⟩,this _,this _⟩,this _,this _⟩,this _,this _⟩
theorem ns_end:NS ((-1,⟨#[]⟩):Tk):=⟨⟨⟨⟨kCW,rfl,rfl⟩,rfl,rfl⟩,rfl,rfl⟩,rfl,rfl⟩
theorem zFj {t:Tk} (x:ByteArray) (h1:t.1≠1) (h4:t.1≠4):skT t x=false:=by
 unfold skT;rw[kAd.2 h1,kAd.2 h4];rfl
def Head (t:Tk):Prop:=t.1=2∨t.1=0∨t=sgTk 40∨t=sgTk 91
theorem Head.sk {t:Tk} (h:Head t) (x:ByteArray) (hx:x.data.toList≠[40]∧x.data.toList≠[91]):skT t x=false:=by
 rcases h with h | h | rfl | rfl
 ·exact zFj x kCT kCT
 ·exact zFj x kCT kCT
 ·unfold skT;rw[kAQ];exact .inr (by rw[kAd];exact fun e=>hx.1 e.symm)
 ·unfold skT;rw[kAQ];exact .inr (by rw[kAd];exact fun e=>hx.2 e.symm)
theorem getD_args (l:List S31) (i:Nat) (h:i<l.length):(zBX l).getD i (0,[])=(levR l[i].f0,zAm l[i]):=by
 induction l generalizing i with
 | nil=>simp at h
 | cons x l ih =>
  unfold zBX
  cases i with
  | zero=>rfl
  | succ i=>exact ih i kDy
theorem argTk_eq (l:List S31) (i:Nat) (h:i<l.length) (want:Int):zBp (zBX l) i want=tkTk l[i] want:=by
 unfold zBp tkTk;rw[getD_args l i h]
theorem zD8 (x:S31):zAm x=openTOk x.f0 x.f1 x.f2 x.f3 (zBX x.f4):=by cases x;rfl
theorem head_open:∀(d:Nat) (x:S31),zAC x≤d→OkX x→2≤levR x.f0→∃t l,zAm x=t :: l∧Head t:=by
 intro d
 induction d with
 | zero=>intro x h;rw[zAr] at h;omega
 | succ d ih =>
  intro x hd hok hlev;obtain⟨_,hlook,hl⟩:=hok;have hn:=zEr hlook;rw[zAr] at hd;have harg:∀(h:0<x.f4.length) (want:Int),2≤want→∃t l,zBp (zBX x.f4) 0 want=t :: l∧Head t:=by
   intro h want hw;rw[argTk_eq _ 0 h];by_cases hlt:levR (x.f4[0]).f0<want
   ·rw[zDJ hlt];exact⟨_,_,rfl,.inr (.inr (.inl rfl))⟩
   ·rw[zD4 kCT];have:=zB7 (kAA h);exact ih _ kCT (hl _ (kAA h)) kCT
  rw[zD8];obtain⟨op,num,name,size,l⟩:=x;simp only at hn hlev harg ⊢;have app:∀(a b:List Tk),(∃t l,a=t :: l∧Head t)→∃t l,a++b=t :: l∧Head t:=by
   rintro a b⟨t,l,rfl,h⟩;exact⟨t,l++b,rfl,h⟩
  rcases hn with⟨rfl,_,_,_,_,hk⟩ | ⟨rfl,_,_,_,hk⟩ | ⟨rfl,_,_,_,hk⟩ | ⟨ho,_,_,_,hk⟩ | ⟨rfl,_,_,_,hk⟩ | ⟨rfl,_,_,_,hk⟩ | ⟨ho,_,_,_,hk⟩ | ⟨rfl,_,_,_,hk⟩ | ⟨rfl,_,_,_,hk⟩ | ⟨rfl,_,_,_,hk⟩
  ·exact⟨_,_,rfl,.inl rfl⟩
  ·exact⟨_,_,rfl,.inr (.inl rfl)⟩
  ·exact absurd hlev kCW
  ·rcases ho with rfl | rfl | rfl | rfl | rfl
   ·exact absurd hlev kCW
   ·exact absurd hlev kCW
   ·exact app _ _ (harg kCT 2 kCT)
   ·exact app _ _ (harg kCT 2 kCT)
   ·exact app _ _ (harg kCT 4 kCT)
  ·exact app _ _ (harg kCT 4 kCT)
  ·exact⟨_,_,rfl,.inr (.inr (.inr rfl))⟩
  ·rcases ho with rfl | rfl<;>exact absurd hlev kCW
  ·exact absurd hlev kCW
  ·exact absurd hlev kCW
  ·exact⟨_,_,rfl,.inr (.inl rfl)⟩
end Go.Proofs.YtjaobihcdkjmbaaGreatDoor
end
