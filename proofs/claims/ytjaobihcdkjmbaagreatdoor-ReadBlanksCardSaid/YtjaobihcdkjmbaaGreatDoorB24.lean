/- The law ReadBlanks answers true for every argument; a part of its proof. -/
import Derived.Test.YtjaobihcdkjmbaaGreatDoorBa
import Derived.Test.YtjaobihcdkjmbaaGreatDoorBb
import Derived.Test.YtjaobihcdkjmbaaGreatDoorB0
import Derived.Test.YtjaobihcdkjmbaaGreatDoorB1
import Derived.Test.YtjaobihcdkjmbaaGreatDoorB7
import Derived.Test.YtjaobihcdkjmbaaGreatDoorB19
set_option linter.unusedVariables false
set_option linter.unusedSimpArgs false
namespace Go.Proofs.YtjaobihcdkjmbaaGreatDoor.PReadTokens
end Go.Proofs.YtjaobihcdkjmbaaGreatDoor.PReadTokens
namespace Go.Proofs.YtjaobihcdkjmbaaGreatDoorW.PrintLast
end Go.Proofs.YtjaobihcdkjmbaaGreatDoorW.PrintLast
namespace Go.Proofs.YtjaobihcdkjmbaaGreatDoorW.PrintMore
end Go.Proofs.YtjaobihcdkjmbaaGreatDoorW.PrintMore
namespace Go.Proofs.YtjaobihcdkjmbaaGreatDoorW.PrintWords
end Go.Proofs.YtjaobihcdkjmbaaGreatDoorW.PrintWords
set_option maxRecDepth 100000
set_option maxHeartbeats 8000000
section
namespace Go.Proofs.YtjaobihcdkjmbaaGreatDoor
open Go.RowKit Go.Proofs.YtjaobihcdkjmbaaGreatDoorW.PrintWords Go.Proofs.YtjaobihcdkjmbaaGreatDoor.PReadTokens
theorem caught_nil (w:World):Calls Tryz.prog 63 #[.nilIface] w fun e w'=>e=.returned (.int .i64 0)∧w'=w:=by
 have hta:=zEA;go_enter Tryz.func63,Tryz.ntmps63;go_wp2;go_ret;exact⟨rfl,rfl⟩
theorem catch62_idle (p:Nat) (old:Value) (w:World) (hp:w.heap[p]?=some (.cells #[old] 36 (0,0))) :
  CallsD Tryz.prog 62 #[.pointer (some ⟨p,0,none⟩)] .returning w fun e u' w'=>e=.returned (.tuple #[])∧u'=.returning∧w'=w.setCell ⟨p,0,none⟩ (.int .i64 0):=by
 have hta:=caught_nil w;have f0:=zA2 hp 0;have c0:=zA1 hp 0;refine kC5 Tryz.func62 rfl fun c₀ cs hu=>?_
 apply kCB;simp[wpOpsS,go_sem,recoverD,hu,Tryz.ntmps62,Exit.thenS];refine hta.mono ?_;rintro e w' ⟨rfl,hw⟩;subst w';simp[go_sem,c0,f0,Oper.upon,Result.andThen]
 cases c₀
 simp_all [bodyPostS,results,Tryz.results62]
end Go.Proofs.YtjaobihcdkjmbaaGreatDoor
end
section
namespace Go.Proofs.YtjaobihcdkjmbaaGreatDoor.PReadTokens
open Go.RowKit Go.Proofs.YtjaobihcdkjmbaaGreatDoorW.PrintWords Go.Proofs.YtjaobihcdkjmbaaGreatDoorW.PrintLast Go.Proofs.YtjaobihcdkjmbaaGreatDoorW.PrintMore
section
attribute [local go_sem] zDS zDQ zEO zEN zDb zDa zDR zDP   -- for this text's walks alone
set_option linter.unusedVariables false
set_option linter.unusedSimpArgs false
def metewandkit_EqTexts.l0:Nat→List ByteArray→List ByteArray→Int→Option (Bool)
 | 0,_,_,_=>none
 | k+1,x0,x1,x5=>if x5<(x0.length:Int) then (if 0≤x5 then (if x5<(x1.length:Int) then (if (rdOf ByteArray.empty x0 x5).toList=(rdOf ByteArray.empty x1 x5).toList then (metewandkit_EqTexts.l0 k x0 x1 (wrap64 (x5+1))) else (some false)) else (none)) else (none)) else (some true)
def metewandkit_EqTexts.f (k:Nat) (l0:List ByteArray) (l1:List ByteArray):Option (Bool):=if (l0.length:Int)=(l1.length:Int) then (metewandkit_EqTexts.l0 k l0 l1 0) else (some false)
theorem metewandkit_EqTexts.calls (k:Nat) (A0:Option Addr) (c0:Nat) (l0:List ByteArray) (A1:Option Addr) (c1:Nat) (l1:List ByteArray) (r:Bool) (w:World) (hr0:Kd.C Kd.string w A0 l0.length l0) (hc0:l0.length≤c0) (hr1:Kd.C Kd.string w A1 l1.length l1) (hc1:l1.length≤c1) (h:metewandkit_EqTexts.f k l0 l1=some r) :
  Calls Tryz.prog 40 #[.slice A0 l0.length c0,.slice A1 l1.length c1] w fun e w'=>e=.returned (.bool r)∧Drawn0 w w':=by
 have HR0:=Aside0.mk hr0;have HC0:=Aside0.mk hc0;clear hr0 hc0;have HR1:=Aside0.mk hr1;have HC1:=Aside0.mk hc1;clear hr1 hc1;have H:(if (l0.length:Int)=(l1.length:Int) then (metewandkit_EqTexts.l0 k l0 l1 0) else (some false))=some r:=h;clear h;by_cases c3:(l0.length:Int)=(l1.length:Int)
 ·rw[kAa c3] at H;have c3b0:((l0.length:Int)==(l1.length:Int))=true:=beq_iff_eq.mpr c3;have c3b1:((l0.length:Int) != (l1.length:Int))=false:=bne_eq_false_iff_eq.mpr c3;have c3b2:(l0.length==l1.length)=true:=by first | simpa using c3 | (simp at c3⊢;omega)
  clear c3;have H':=Aside0.mk H;clear H;go_enter Tryz.func40,Tryz.ntmps40;go_wp2
  repeat (go_quiet (fail);try go_wp2)
  go_loopg [5] k (fun kq v5 w'=>∃(x5_1:Int),v5=.int .i64 x5_1∧Aside0 (metewandkit_EqTexts.l0 kq l0 l1 x5_1=some r)∧Aside0 (kq≤k)∧Drawn0 w w')
  case atStart=>exact⟨(0),kD6,H',⟨kA2 _⟩,by repeat (first | exact Drawn0.refl _ | apply Drawn0.step)⟩
  case round =>
   clear H'
   try clear c1
   try clear p2
   try clear c3
   try clear c3b0
   try clear c3b1
   try clear c3b2
   obtain⟨x5_1,rfl,HA,HK1,⟨m1,rfl⟩⟩:=hrel
   cases gk with
   | zero=>exact absurd HA.out (by simp[metewandkit_EqTexts.l0])
   | succ k1 =>
    have H:=HA.out;clear HA;simp only[metewandkit_EqTexts.l0] at H;by_cases c4:x5_1<(l0.length:Int)
    ·rw[kAa c4] at H;have c4b0:decide (x5_1<(l0.length:Int))=true:=kA7 c4;clear c4;by_cases c5:0≤x5_1
     ·rw[kAa c5] at H;have c5b0:decide (0≤x5_1)=true:=kA7 c5;clear c5;by_cases c6:x5_1<(l1.length:Int)
      ·rw[kAa c6] at H;have c6b0:decide (x5_1<(l1.length:Int))=true:=kA7 c6;clear c6;by_cases c7:(rdOf ByteArray.empty l0 x5_1).toList=(rdOf ByteArray.empty l1 x5_1).toList
       ·rw[kAa c7] at H;have c7b0:((rdOf ByteArray.empty l0 x5_1).toList==(rdOf ByteArray.empty l1 x5_1).toList)=true:=beq_iff_eq.mpr c7;have c7b1:((rdOf ByteArray.empty l0 x5_1).toList != (rdOf ByteArray.empty l1 x5_1).toList)=false:=bne_eq_false_iff_eq.mpr c7;clear c7;have H':=Aside0.mk H;clear H;have p344:0≤(x5_1:Int):=kAl kD4;have q344:x5_1<(l0.length:Int):=kAl kD4;obtain⟨ad344,e344,hx344_0⟩:=Kd.at_string HR0.out x5_1 p344 q344
        cases e344;replace p344:=kB7 p344;replace q344:=kB7 q344;have p345:0≤(x5_1:Int):=kAl kD4;have q345:x5_1<(l1.length:Int):=kAl kD4;obtain⟨ad345,e345,hx345_0⟩:=Kd.at_string HR1.out x5_1 p345 q345
        cases e345;replace p345:=kB7 p345;replace q345:=kB7 q345;go_wp2
        repeat (go_quiet (fail);try go_wp2)
        go_roundg k1
        case measure=>have:=HK1.out;omega
        case rel=>exact⟨(wrap64 (x5_1+1)),kD6,H',⟨by have:=HK1.out;omega⟩,by repeat (first | exact Drawn0.refl _ | apply Drawn0.step)⟩
       ·rw[kA9 c7] at H;have c7b0:((rdOf ByteArray.empty l0 x5_1).toList==(rdOf ByteArray.empty l1 x5_1).toList)=false:=beq_eq_false_iff_ne.mpr c7;have c7b1:((rdOf ByteArray.empty l0 x5_1).toList != (rdOf ByteArray.empty l1 x5_1).toList)=true:=bne_iff_ne.mpr c7;obtain rfl:=kAg H;have p344:0≤(x5_1:Int):=kAl kD4;have q344:x5_1<(l0.length:Int):=kAl kD4;obtain⟨ad344,e344,hx344_0⟩:=Kd.at_string HR0.out x5_1 p344 q344
        cases e344;replace p344:=kB7 p344;replace q344:=kB7 q344;have p345:0≤(x5_1:Int):=kAl kD4;have q345:x5_1<(l1.length:Int):=kAl kD4;obtain⟨ad345,e345,hx345_0⟩:=Kd.at_string HR1.out x5_1 p345 q345
        cases e345;replace p345:=kB7 p345;replace q345:=kB7 q345;go_wp2
        repeat (go_quiet (fail);try go_wp2)
        go_ret;exact⟨kD6,by repeat (first | exact Drawn0.refl _ | apply Drawn0.step)⟩
      ·rw[kA9 c6] at H;exact absurd H kCV
     ·rw[kA9 c5] at H;exact absurd H kCV
    ·rw[kA9 c4] at H;have c4b0:decide (x5_1<(l0.length:Int))=false:=kA8 c4;clear c4;obtain rfl:=kAg H;go_wp2
     repeat (go_quiet (fail);try go_wp2)
     go_ret;exact⟨kD6,by repeat (first | exact Drawn0.refl _ | apply Drawn0.step)⟩
 ·rw[kA9 c3] at H;have c3b0:((l0.length:Int)==(l1.length:Int))=false:=beq_eq_false_iff_ne.mpr c3;have c3b1:((l0.length:Int) != (l1.length:Int))=true:=bne_iff_ne.mpr c3;have c3b2:(l0.length==l1.length)=false:=by first | simpa using c3 | (simp at c3⊢;omega)
  obtain rfl:=kAg H;go_enter Tryz.func40,Tryz.ntmps40;go_wp2
  repeat (go_quiet (fail);try go_wp2)
  go_ret;exact⟨kD6,by repeat (first | exact Drawn0.refl _ | apply Drawn0.step)⟩
mutual
def metewandref13_level.j0:Nat→Int→Bool→Option (Int)
 | 0,_,_=>none
 | k+1,x4,x5=>if x5=true then (some 0) else (if x4=2 then (metewandref13_level.j1 k x4 (x4==2)) else (if x4=3 then (metewandref13_level.j1 k x4 (x4==3)) else (metewandref13_level.j1 k x4 (x4==4))))
def metewandref13_level.j1:Nat→Int→Bool→Option (Int)
 | 0,_,_=>none
 | k+1,x4,x10=>if x10=true then (some 1) else (if x4=5 then (metewandref13_level.j2 k x4 (x4==5)) else (metewandref13_level.j2 k x4 (x4==6)))
def metewandref13_level.j2:Nat→Int→Bool→Option (Int)
 | 0,_,_=>none
 | k+1,x4,x14=>if x14=true then (some 2) else (if x4=7 then (some 3) else (some 4))
end
def metewandref13_level.f (k:Nat) (a0_0:Int) (a0_1:ByteArray) (a0_2:ByteArray) (a0_3:ByteArray) (a0_4:Int) (l0_5:List (S31)):Option (Int):=if a0_0=13 then (metewandref13_level.j0 k a0_0 (a0_0==13)) else (if a0_0=12 then (metewandref13_level.j0 k a0_0 (a0_0==12)) else (if a0_0=10 then (metewandref13_level.j0 k a0_0 (a0_0==10)) else (metewandref13_level.j0 k a0_0 (a0_0==11))))
theorem metewandref13_level.calls (k:Nat) (a0_0:Int) (a0_1:ByteArray) (a0_2:ByteArray) (a0_3:ByteArray) (a0_4:Int) (A0_5:Option Addr) (c0_5:Nat) (l0_5:List (S31)) (r:Int) (w:World) (hr0_5:Kd.C k31 w A0_5 l0_5.length l0_5) (hc0_5:l0_5.length≤c0_5) (h:metewandref13_level.f k a0_0 a0_1 a0_2 a0_3 a0_4 l0_5=some r) :
  Calls Tryz.prog 120 #[.agg #[.int .i64 a0_0,.string a0_1,.string a0_2,.string a0_3,.int .i64 a0_4,.slice A0_5 l0_5.length c0_5]] w fun e w'=>e=.returned (.int .i64 r)∧Below w.heap.size w w':=by
 have hu31:=Tryz.underlying31;have HR0_5:=Aside0.mk hr0_5;have HC0_5:=Aside0.mk hc0_5;clear hr0_5 hc0_5;have HB:=Aside0.mk (kA3 w.heap.size w);have H:(if a0_0=13 then (metewandref13_level.j0 k a0_0 (a0_0==13)) else (if a0_0=12 then (metewandref13_level.j0 k a0_0 (a0_0==12)) else (if a0_0=10 then (metewandref13_level.j0 k a0_0 (a0_0==10)) else (metewandref13_level.j0 k a0_0 (a0_0==11)))))=some r:=h;clear h;have HC2:=Aside0.mk H;clear H;go_enter Tryz.func120,Tryz.ntmps120
 go_upto_if 5 with (first | ((with_reducible refine zFo (N:=1) rfl ?_);refine box_event ?hg (N:=1) ?hd (cs:=#[.int .i64 a0_0,.string a0_1,.string a0_2,.string a0_3,.int .i64 a0_4,.slice A0_5 l0_5.length c0_5]) (t:=31) ?hr ?_;(case hd=>rfl);(case hg=>rfl);(case hr=>first | (go_simp;done) | (go_simp;rfl));intro gb356 hg w3 hbox hb;have n0_:=Aside0.mk (zB0 kD5 hb);have n1_:=Aside0.mk (hbox);have n2_:=Aside0.mk ((by rw[hg];exact (zCg kD5):w.heap.size≤gb356));have n3_:=Aside0.mk ((by rw[hg];exact (zCg kD5):w.heap.size≤gb356));clear HB;have HB:=n0_;have BK356:=n1_;have GW356:=n2_;have GE356:=n3_;clear n0_ n1_ n2_ n3_;clear hb hbox hg;have hcz4_0:w3.cell? ⟨gb356,0,none⟩=some (.int .i64 a0_0):=(zA1 BK356.out 0).trans rfl;have hcz4_1:w3.cell? ⟨gb356,1,none⟩=some (.string a0_1):=(zA1 BK356.out 1).trans rfl;have hcz4_2:w3.cell? ⟨gb356,2,none⟩=some (.string a0_2):=(zA1 BK356.out 2).trans rfl;have hcz4_3:w3.cell? ⟨gb356,3,none⟩=some (.string a0_3):=(zA1 BK356.out 3).trans rfl;have hcz4_4:w3.cell? ⟨gb356,4,none⟩=some (.int .i64 a0_4):=(zA1 BK356.out 4).trans rfl;have hcz4_5:w3.cell? ⟨gb356,5,none⟩=some (.slice A0_5 l0_5.length c0_5):=(zA1 BK356.out 5).trans rfl;have hfz4_0:=zA2 BK356.out 0;have hfz4_1:=zA2 BK356.out 1;have hfz4_2:=zA2 BK356.out 2;have hfz4_3:=zA2 BK356.out 3;have hfz4_4:=zA2 BK356.out 4;have hfz4_5:=zA2 BK356.out 5))
 (try simp only[Act.put,kA0,List.set_cons_zero,List.set_cons_succ])
 go_cut [5] (fun v5 wc=>∃(kq:Nat) (x5_1:Bool),v5=.bool x5_1∧Aside0 (metewandref13_level.j0 kq a0_0 x5_1=some r)∧Aside0 (kq≤k)∧Aside0 (wc.heap[gb356]?=some (.cells #[.int .i64 a0_0,.string a0_1,.string a0_2,.string a0_3,.int .i64 a0_4,(.slice A0_5 l0_5.length c0_5)] 31 (0,0)))∧Aside0 (Below w.heap.size w wc))
 case first =>
  have H:=HC2.out;clear HC2;by_cases c5:a0_0=13
  ·rw[kAa c5] at H;have c5b0:(a0_0==13)=true:=beq_iff_eq.mpr c5;have c5b1:(a0_0 != 13)=false:=bne_eq_false_iff_eq.mpr c5;clear c5
   (first | rw[c5b0] | (simp only[zAc,zAd];rw[c5b0]) | skip)
   have H':=Aside0.mk H;clear H;go_wp2
   go_meet
   case rel=>exact⟨_,((a0_0==13)),kD6,H',⟨by first | omega | exact kA2 _⟩,⟨by (with_reducible repeat (first | refine zAS ?_ _ | refine zCB ?_ | refine zC6 ?_ _));exact BK356.out⟩,⟨by repeat (first | (with_reducible first | exact HB.out | apply zAa | apply zA3 | apply zAb | refine zBa ?_ GE356.out) | exact HB.out)⟩⟩
  ·rw[kA9 c5] at H;have c5b0:(a0_0==13)=false:=beq_eq_false_iff_ne.mpr c5;have c5b1:(a0_0 != 13)=true:=bne_iff_ne.mpr c5
   (first | rw[c5b0] | (simp only[zAc,zAd];rw[c5b0]) | skip)
   by_cases c6:a0_0=12
   ·rw[kAa c6] at H;have c6b0:(a0_0==12)=true:=beq_iff_eq.mpr c6;have c6b1:(a0_0 != 12)=false:=bne_eq_false_iff_eq.mpr c6;clear c6;have H':=Aside0.mk H;clear H;go_wp2
    go_meet
    case rel=>exact⟨_,((a0_0==12)),kD6,H',⟨by first | omega | exact kA2 _⟩,⟨by (with_reducible repeat (first | refine zAS ?_ _ | refine zCB ?_ | refine zC6 ?_ _));exact BK356.out⟩,⟨by repeat (first | (with_reducible first | exact HB.out | apply zAa | apply zA3 | apply zAb | refine zBa ?_ GE356.out) | exact HB.out)⟩⟩
   ·rw[kA9 c6] at H;have c6b0:(a0_0==12)=false:=beq_eq_false_iff_ne.mpr c6;have c6b1:(a0_0 != 12)=true:=bne_iff_ne.mpr c6;by_cases c7:a0_0=10
    ·rw[kAa c7] at H;have c7b0:(a0_0==10)=true:=beq_iff_eq.mpr c7;have c7b1:(a0_0 != 10)=false:=bne_eq_false_iff_eq.mpr c7;clear c7;have H':=Aside0.mk H;clear H;go_wp2
     go_meet
     case rel=>exact⟨_,((a0_0==10)),kD6,H',⟨by first | omega | exact kA2 _⟩,⟨by (with_reducible repeat (first | refine zAS ?_ _ | refine zCB ?_ | refine zC6 ?_ _));exact BK356.out⟩,⟨by repeat (first | (with_reducible first | exact HB.out | apply zAa | apply zA3 | apply zAb | refine zBa ?_ GE356.out) | exact HB.out)⟩⟩
    ·rw[kA9 c7] at H;have c7b0:(a0_0==10)=false:=beq_eq_false_iff_ne.mpr c7;have c7b1:(a0_0 != 10)=true:=bne_iff_ne.mpr c7;have H':=Aside0.mk H;clear H;go_wp2
     go_meet
     case rel=>exact⟨_,((a0_0==11)),kD6,H',⟨by first | omega | exact kA2 _⟩,⟨by (with_reducible repeat (first | refine zAS ?_ _ | refine zCB ?_ | refine zC6 ?_ _));exact BK356.out⟩,⟨by repeat (first | (with_reducible first | exact HB.out | apply zAa | apply zA3 | apply zAb | refine zBa ?_ GE356.out) | exact HB.out)⟩⟩
 case rest =>
  clear HC2
  try clear c1
  try clear p2
  try clear c5
  try clear c5b0
  try clear c5b1
  try clear c6
  try clear c6b0
  try clear c6b1
  try clear c7
  try clear c7b0
  try clear c7b1
  try clear hcz4_0
  try clear hcz4_1
  try clear hcz4_2
  try clear hcz4_3
  try clear hcz4_4
  try clear hcz4_5
  try clear hfz4_0
  try clear hfz4_1
  try clear hfz4_2
  try clear hfz4_3
  try clear hfz4_4
  try clear hfz4_5
  obtain⟨kq,x5_1,rfl,HA,HJ1,BK356,HB⟩:=hcut
  cases kq with
  | zero=>exact absurd HA.out (by simp[metewandref13_level.j0])
  | succ kj1 =>
   have H:=HA.out;clear HA;simp only[metewandref13_level.j0] at H;by_cases c8:x5_1=true
   ·subst c8;have H1:(some 0)=some r:=by rw[kAa rfl] at H;exact H
    clear H;have H:=H1;clear H1;obtain rfl:=kAg H;go_wp2;go_ret;exact⟨by first | rfl | (simp[zAB,zAA]<;>rfl) | (simp[*,zAB,zAA]<;>rfl),by repeat (first | (with_reducible first | exact HB.out | apply zAa | apply zA3 | apply zAb | refine zBa ?_ GE356.out) | exact HB.out)⟩
   ·replace c8:=Bool.eq_false_iff.mpr c8;subst c8;have H1:(if a0_0=2 then (metewandref13_level.j1 kj1 a0_0 (a0_0==2)) else (if a0_0=3 then (metewandref13_level.j1 kj1 a0_0 (a0_0==3)) else (metewandref13_level.j1 kj1 a0_0 (a0_0==4))))=some r:=by rw[kA9 (show ¬(false=true) by decide)] at H;exact H
    clear H;have H:=H1;clear H1;have HC9:=Aside0.mk H;clear H
    go_upto_if 10 with (fail)
    go_cut [10] (fun v10 wc=>∃(kq:Nat) (x10_8:Bool),v10=.bool x10_8∧Aside0 (metewandref13_level.j1 kq a0_0 x10_8=some r)∧Aside0 (kq≤kj1)∧Aside0 (wc.heap[gb356]?=some (.cells #[.int .i64 a0_0,.string a0_1,.string a0_2,.string a0_3,.int .i64 a0_4,(.slice A0_5 l0_5.length c0_5)] 31 (0,0)))∧Aside0 (Below w.heap.size w wc))
    case first =>
     have H:=HC9.out;clear HC9;by_cases c10:a0_0=2
     ·rw[kAa c10] at H;have c10b0:(a0_0==2)=true:=beq_iff_eq.mpr c10;have c10b1:(a0_0 != 2)=false:=bne_eq_false_iff_eq.mpr c10;clear c10
      (first | rw[c10b0] | (simp only[zAc,zAd];rw[c10b0]) | skip)
      have H':=Aside0.mk H;clear H;go_wp2
      go_meet
      case rel=>exact⟨_,((a0_0==2)),kD6,H',⟨by have:=HJ1.out;first | omega | exact kA2 _⟩,⟨by (with_reducible repeat (first | refine zAS ?_ _ | refine zCB ?_ | refine zC6 ?_ _));exact BK356.out⟩,⟨by repeat (first | (with_reducible first | exact HB.out | apply zAa | apply zA3 | apply zAb | refine zBa ?_ GE356.out) | exact HB.out)⟩⟩
     ·rw[kA9 c10] at H;have c10b0:(a0_0==2)=false:=beq_eq_false_iff_ne.mpr c10;have c10b1:(a0_0 != 2)=true:=bne_iff_ne.mpr c10
      (first | rw[c10b0] | (simp only[zAc,zAd];rw[c10b0]) | skip)
      by_cases c11:a0_0=3
      ·rw[kAa c11] at H;have c11b0:(a0_0==3)=true:=beq_iff_eq.mpr c11;have c11b1:(a0_0 != 3)=false:=bne_eq_false_iff_eq.mpr c11;clear c11;have H':=Aside0.mk H;clear H;go_wp2
       go_meet
       case rel=>exact⟨_,((a0_0==3)),kD6,H',⟨by have:=HJ1.out;first | omega | exact kA2 _⟩,⟨by (with_reducible repeat (first | refine zAS ?_ _ | refine zCB ?_ | refine zC6 ?_ _));exact BK356.out⟩,⟨by repeat (first | (with_reducible first | exact HB.out | apply zAa | apply zA3 | apply zAb | refine zBa ?_ GE356.out) | exact HB.out)⟩⟩
      ·rw[kA9 c11] at H;have c11b0:(a0_0==3)=false:=beq_eq_false_iff_ne.mpr c11;have c11b1:(a0_0 != 3)=true:=bne_iff_ne.mpr c11;have H':=Aside0.mk H;clear H;go_wp2
       go_meet
       case rel=>exact⟨_,((a0_0==4)),kD6,H',⟨by have:=HJ1.out;first | omega | exact kA2 _⟩,⟨by (with_reducible repeat (first | refine zAS ?_ _ | refine zCB ?_ | refine zC6 ?_ _));exact BK356.out⟩,⟨by repeat (first | (with_reducible first | exact HB.out | apply zAa | apply zA3 | apply zAb | refine zBa ?_ GE356.out) | exact HB.out)⟩⟩
    case rest =>
     clear HC9
     try clear c1
     try clear p2
     try clear c5
     try clear c5b0
     try clear c5b1
     try clear c6
     try clear c6b0
     try clear c6b1
     try clear c7
     try clear c7b0
     try clear c7b1
     try clear c8
     try clear c10
     try clear c10b0
     try clear c10b1
     try clear c11
     try clear c11b0
     try clear c11b1
     try clear hcz4_0
     try clear hcz4_1
     try clear hcz4_2
     try clear hcz4_3
     try clear hcz4_4
     try clear hcz4_5
     try clear hfz4_0
     try clear hfz4_1
     try clear hfz4_2
     try clear hfz4_3
     try clear hfz4_4
     try clear hfz4_5
     try clear p2
     obtain⟨kq,x10_8,rfl,HA,HJ8,BK356,HB⟩:=hcut
     cases kq with
     | zero=>exact absurd HA.out (by simp[metewandref13_level.j1])
     | succ kj8 =>
      have H:=HA.out;clear HA;simp only[metewandref13_level.j1] at H;by_cases c12:x10_8=true
      ·subst c12;have H1:(some 1)=some r:=by rw[kAa rfl] at H;exact H
       clear H;have H:=H1;clear H1;obtain rfl:=kAg H;go_wp2;go_ret;exact⟨by first | rfl | (simp[zAB,zAA]<;>rfl) | (simp[*,zAB,zAA]<;>rfl),by repeat (first | (with_reducible first | exact HB.out | apply zAa | apply zA3 | apply zAb | refine zBa ?_ GE356.out) | exact HB.out)⟩
      ·replace c12:=Bool.eq_false_iff.mpr c12;subst c12;have H1:(if a0_0=5 then (metewandref13_level.j2 kj8 a0_0 (a0_0==5)) else (metewandref13_level.j2 kj8 a0_0 (a0_0==6)))=some r:=by rw[kA9 (show ¬(false=true) by decide)] at H;exact H
       clear H;have H:=H1;clear H1;have HC13:=Aside0.mk H;clear H
       go_upto_if 14 with (fail)
       go_cut [14] (fun v14 wc=>∃(kq:Nat) (x14_12:Bool),v14=.bool x14_12∧Aside0 (metewandref13_level.j2 kq a0_0 x14_12=some r)∧Aside0 (kq≤kj8)∧Aside0 (wc.heap[gb356]?=some (.cells #[.int .i64 a0_0,.string a0_1,.string a0_2,.string a0_3,.int .i64 a0_4,(.slice A0_5 l0_5.length c0_5)] 31 (0,0)))∧Aside0 (Below w.heap.size w wc))
       case first =>
        have H:=HC13.out;clear HC13;by_cases c14:a0_0=5
        ·rw[kAa c14] at H;have c14b0:(a0_0==5)=true:=beq_iff_eq.mpr c14;have c14b1:(a0_0 != 5)=false:=bne_eq_false_iff_eq.mpr c14;clear c14
         (first | rw[c14b0] | (simp only[zAc,zAd];rw[c14b0]) | skip)
         have H':=Aside0.mk H;clear H;go_wp2
         go_meet
         case rel=>exact⟨_,((a0_0==5)),kD6,H',⟨by have:=HJ1.out;have:=HJ8.out;first | omega | exact kA2 _⟩,⟨by (with_reducible repeat (first | refine zAS ?_ _ | refine zCB ?_ | refine zC6 ?_ _));exact BK356.out⟩,⟨by repeat (first | (with_reducible first | exact HB.out | apply zAa | apply zA3 | apply zAb | refine zBa ?_ GE356.out) | exact HB.out)⟩⟩
        ·rw[kA9 c14] at H;have c14b0:(a0_0==5)=false:=beq_eq_false_iff_ne.mpr c14;have c14b1:(a0_0 != 5)=true:=bne_iff_ne.mpr c14
         (first | rw[c14b0] | (simp only[zAc,zAd];rw[c14b0]) | skip)
         have H':=Aside0.mk H;clear H;go_wp2
         go_meet
         case rel=>exact⟨_,((a0_0==6)),kD6,H',⟨by have:=HJ1.out;have:=HJ8.out;first | omega | exact kA2 _⟩,⟨by (with_reducible repeat (first | refine zAS ?_ _ | refine zCB ?_ | refine zC6 ?_ _));exact BK356.out⟩,⟨by repeat (first | (with_reducible first | exact HB.out | apply zAa | apply zA3 | apply zAb | refine zBa ?_ GE356.out) | exact HB.out)⟩⟩
       case rest =>
        clear HC13
        try clear c1
        try clear p2
        try clear c5
        try clear c5b0
        try clear c5b1
        try clear c6
        try clear c6b0
        try clear c6b1
        try clear c7
        try clear c7b0
        try clear c7b1
        try clear c8
        try clear c10
        try clear c10b0
        try clear c10b1
        try clear c11
        try clear c11b0
        try clear c11b1
        try clear c12
        try clear c14
        try clear c14b0
        try clear c14b1
        try clear hcz4_0
        try clear hcz4_1
        try clear hcz4_2
        try clear hcz4_3
        try clear hcz4_4
        try clear hcz4_5
        try clear hfz4_0
        try clear hfz4_1
        try clear hfz4_2
        try clear hfz4_3
        try clear hfz4_4
        try clear hfz4_5
        try clear p2
        obtain⟨kq,x14_12,rfl,HA,HJ12,BK356,HB⟩:=hcut
        cases kq with
        | zero=>exact absurd HA.out (by simp[metewandref13_level.j2])
        | succ kj12 =>
         have H:=HA.out;clear HA;simp only[metewandref13_level.j2] at H;by_cases c15:x14_12=true
         ·subst c15;have H1:(some 2)=some r:=by rw[kAa rfl] at H;exact H
          clear H;have H:=H1;clear H1;obtain rfl:=kAg H;go_wp2;go_ret;exact⟨by first | rfl | (simp[zAB,zAA]<;>rfl) | (simp[*,zAB,zAA]<;>rfl),by repeat (first | (with_reducible first | exact HB.out | apply zAa | apply zA3 | apply zAb | refine zBa ?_ GE356.out) | exact HB.out)⟩
         ·replace c15:=Bool.eq_false_iff.mpr c15;subst c15;have H1:(if a0_0=7 then (some 3) else (some 4))=some r:=by rw[kA9 (show ¬(false=true) by decide)] at H;exact H
          clear H;have H:=H1;clear H1;by_cases c16:a0_0=7
          ·rw[kAa c16] at H;have c16b0:(a0_0==7)=true:=beq_iff_eq.mpr c16;have c16b1:(a0_0 != 7)=false:=bne_eq_false_iff_eq.mpr c16;clear c16;obtain rfl:=kAg H;go_wp2;go_ret;exact⟨by first | rfl | (simp[zAB,zAA]<;>rfl) | (simp[*,zAB,zAA]<;>rfl),by repeat (first | (with_reducible first | exact HB.out | apply zAa | apply zA3 | apply zAb | refine zBa ?_ GE356.out) | exact HB.out)⟩
          ·rw[kA9 c16] at H;have c16b0:(a0_0==7)=false:=beq_eq_false_iff_ne.mpr c16;have c16b1:(a0_0 != 7)=true:=bne_iff_ne.mpr c16;obtain rfl:=kAg H;go_wp2;go_ret;exact⟨by first | rfl | (simp[zAB,zAA]<;>rfl) | (simp[*,zAB,zAA]<;>rfl),by repeat (first | (with_reducible first | exact HB.out | apply zAa | apply zA3 | apply zAb | refine zBa ?_ GE356.out) | exact HB.out)⟩
end
end Go.Proofs.YtjaobihcdkjmbaaGreatDoor.PReadTokens
end
