/- The law ReadPlace answers true for every argument; a part of its proof. -/
import Derived.Test.YtjaobihcdkjmbaaGreatDoorCa
import Derived.Test.YtjaobihcdkjmbaaGreatDoorCb
import Derived.Test.YtjaobihcdkjmbaaGreatDoorC0
import Derived.Test.YtjaobihcdkjmbaaGreatDoorC1
import Derived.Test.YtjaobihcdkjmbaaGreatDoorC7
import Derived.Test.YtjaobihcdkjmbaaGreatDoorC8
import Derived.Test.YtjaobihcdkjmbaaGreatDoorC12
import Derived.Test.YtjaobihcdkjmbaaGreatDoorC16
set_option linter.unusedVariables false
set_option linter.unusedSimpArgs false
namespace Go.Proofs.YtjaobihcdkjmbaaGreatDoor.PReadTokens
end Go.Proofs.YtjaobihcdkjmbaaGreatDoor.PReadTokens
namespace Go.Proofs.YtjaobihcdkjmbaaGreatDoorW.PrintLast
end Go.Proofs.YtjaobihcdkjmbaaGreatDoorW.PrintLast
namespace Go.Proofs.YtjaobihcdkjmbaaGreatDoorW.PrintMore
end Go.Proofs.YtjaobihcdkjmbaaGreatDoorW.PrintMore
namespace Go.Proofs.YtjaobihcdkjmbaaGreatDoorW.PrintWords
end Go.Proofs.YtjaobihcdkjmbaaGreatDoorW.PrintWords
set_option maxRecDepth 100000
set_option maxHeartbeats 8000000
section
namespace Go.Proofs.YtjaobihcdkjmbaaGreatDoor
open Go.RowKit Go.Proofs.YtjaobihcdkjmbaaGreatDoorW.PrintWords Go.Proofs.YtjaobihcdkjmbaaGreatDoor.PReadTokens
theorem single_ref (b d name:ByteArray) (f:Int) (g:Value) (w:World) :
  Calls Tryz.prog 101 #[.agg #[.int .i64 1,.string b,.string d,.string name,.int .i64 f,g]] w fun e w'=>e=.returned (.string name)∧Below w.heap.size w w':=by
 go_enter Tryz.func101,Tryz.ntmps101;go_wp2;go_ret;exact⟨rfl,(kA3 _ w).alloc (kA2 _) _⟩
theorem text_ref (x:S31) (hop:x.f0=1) (hxs:x.f4=[]) (least:Int) (v:Value) (w:World) (hv:Vw w x v) (hsz:(zDO x).size≤1000000) :
  Calls Tryz.prog 58 #[v,.int .i64 least] w fun e w'=>e=.returned (.string (zAC x least))∧Below w.heap.size w w':=by
 obtain⟨A,c,rfl,hc1,hc2⟩:=hv.out;obtain⟨op,num,name,size,xs⟩:=x;simp only at *;subst hop hxs;obtain⟨r,hr⟩:∃r,r=zDO ⟨1,num,name,size,[]⟩:=⟨_,rfl⟩;obtain⟨R,hR⟩:∃R,R=zAC ⟨1,num,name,size,[]⟩ least:=⟨_,rfl⟩;have hR2:R=zFE r 5 least:=by rw[hR,hr];rfl
 rw[← hR];rw[← hr] at hsz;have HR2:=kA1 hR2;have hcat:r=name:=hr;have HCAT:=kA1 hcat;have HSZ:=kA1 hsz;clear hR hR2 hr hcat hsz;have hk:=zBo ⟨1,num,name,size,[]⟩ A 0 c;unfold exV at *;simp only[List.length_cons,List.length_nil,kAL,Nat.reduceAdd] at *;have t0:=ta156_150;have t1:=ta156_152;have t2:=ta156_154;have t3:=ta156_155;have t4:=ta156_156;have HK:=kA1 hk;have HC:=kA1 hc2;have HV:=kA1 hv;clear hk hc2 hv;go_enter Tryz.func58,Tryz.ntmps58;go_wp2_with fail;refine (HK.out _).mono ?_;rintro e w1 ⟨rfl,hb1⟩;have hk2:zDm (S31.mk 1 num name size []).f0=156:=rfl;rw[hk2];have hbw:=((kA3 _ w).alloc (kA2 _) (.cells #[.int .i64 1,.string num.f0,.string num.f1,.string name,.int .i64 size,.slice A 0 c] 31)).trans (hb1.mono kCY);have hbw2:=hbw.alloc hbw.size (.cells #[.int .i64 1,.string num.f0,.string num.f1,.string name,.int .i64 size,.slice A 0 c] 156);obtain rfl:r=name:=HCAT.out;have HT:=kA1 (fun b d f g w'=>single_ref b d r f g w');clear HV HC HK;go_wp2_with (go_at_call 101;refine (HT.out _ _ _ _ _).mono ?_;rintro e w3 ⟨rfl,hb3⟩);have hbw3:=hbw2.trans (hb3.mono hbw2.size);have HL:=kA1 (fun a b c d e f w'=>lev156 a b c d e f w');clear hb1 hb3 hbw hbw2 HCAT HT t0 t1 t2 t3 t4;have hm:=m156;have HB:=kA1 hbw3;have hrs:(cat [⟨#[40]⟩,r,⟨#[41]⟩]).size≤1000002:=by
  have hsz:=HSZ.out;rw[zDA];simp;have e1:(⟨#[40]⟩:ByteArray).size=1:=rfl;have e2:(⟨#[41]⟩:ByteArray).size=1:=rfl;omega
 have HS:=kA1 hrs;clear hrs
 cases hl':decide (5<least)
 ·have hl:=kA1 (kBr hl');go_wp2_with (go_at_call 312;refine (HL.out _ _ _ _ _ _ _).mono ?_;rintro e w4 ⟨rfl,hb4⟩);go_ret;exact⟨by rw[HR2.out,zDr kDa];rfl,HB.out.trans (hb4.mono HB.out.size)⟩
 ·have hl:=kA1 (kA8 hl');go_wp2_with fail;refine (HL.out _ _ _ _ _ _ _).mono ?_;rintro e w4 ⟨rfl,hb4⟩;go_wp2_with fail;have hj:=zAW w4.heap.size [⟨#[40]⟩,r,⟨#[41]⟩] 9 _ (zA4 w4 _) kCY (kAz HS.out kCW);simp only[List.length_cons,List.length_nil] at hj;refine hj.mono ?_;rintro e w5 ⟨rfl,hb5⟩;go_wp2;go_ret;have h4:=HB.out.trans (hb4.mono HB.out.size);exact⟨by rw[HR2.out,zCR kDa];rfl,(h4.alloc h4.size (.cells #[.string ⟨#[40]⟩,.string r,.string ⟨#[41]⟩] 9)).trans (hb5.mono kDh)⟩
theorem text_pow (x y:S31) (hop:x.f0=7) (hxs:x.f4=[y]) (hs0:-9223372036854775808≤x.f3) (hs1:x.f3≤9223372036854775807) (least:Int) (v:Value) (w:World) (hv:Vw w x v) (hsz:(zDO x).size≤1000000) (htab:Tab w)
  (hrec:∀v w' ls,Vw w' y v→Below w.heap.size w w'→Calls Tryz.prog 58 #[v,.int .i64 ls] w' fun e w''=>e=.returned (.string (zAC y ls))∧Below w'.heap.size w' w'') :
  Calls Tryz.prog 58 #[v,.int .i64 least] w fun e w'=>e=.returned (.string (zAC x least))∧Below w.heap.size w w':=by
 obtain⟨A,c,rfl,hc1,hc2⟩:=hv.out;obtain⟨op,num,name,size,xs⟩:=x;simp only at *;subst hop hxs;obtain⟨r,hr⟩:∃r,r=zDO ⟨7,num,name,size,[y]⟩:=⟨_,rfl⟩;obtain⟨R,hR⟩:∃R,R=zAC ⟨7,num,name,size,[y]⟩ least:=⟨_,rfl⟩;have hR2:R=zFE r 3 least:=by rw[hR,hr];rfl
 rw[← hR];rw[← hr] at hsz;have HR2:=kA1 hR2;have hcat:r=cat [zAC y 4,⟨#[94]⟩,⟨(Lib.itoa size).toArray⟩]:=hr;have HCAT:=kA1 hcat;have HSZ:=kA1 hsz;clear hR hR2 hr hcat hsz;have hk:=zBo ⟨7,num,name,size,[y]⟩ A 1 c;unfold exV at *;simp only[List.length_cons,List.length_nil,kAL,Nat.reduceAdd] at *;have t0:=ta155_150;have t1:=ta155_152;have t2:=ta155_154;have t3:=ta155_155;have HK:=kA1 hk;have HC:=kA1 hc2;have HV:=kA1 hv;clear hk hc2 hv;have HR:=kA1 hrec;have HI:=kA1 (fun w' (h:Tab w')=>itoa_calls size hs0 hs1 w' h);have HT:=kA1 htab;clear hrec hs0 hs1 htab;go_enter Tryz.func58,Tryz.ntmps58;go_wp2_with fail;refine (HK.out _).mono ?_;rintro e w1 ⟨rfl,hb1⟩;have hk2:zDm (S31.mk 7 num name size [y]).f0=155:=rfl;rw[hk2];have hbw:=((kA3 _ w).alloc (kA2 _) (.cells #[.int .i64 7,.string num.f0,.string num.f1,.string name,.int .i64 size,.slice A 1 c] 31)).trans (hb1.mono kCY);have hbw2:=hbw.alloc hbw.size (.cells #[.int .i64 7,.string num.f0,.string num.f1,.string name,.int .i64 size,.slice A 1 c] 155);obtain⟨ad,A5,c5,rfl,q0,q1,q2,q3,q4,q5,hvw⟩:=zAs (xs:=[y]) (Kd.C_below HC.out hbw2) 0 kCY;simp only[List.getElem_cons_zero,kB0,kAO] at q0 q1 q2 q3 q4 q5 hvw;have hbl:=zA4 w1 (.cells #[.int .i64 7,.string num.f0,.string num.f1,.string name,.int .i64 size,.slice (some ad) 1 c] 155);go_wp2_with fail;refine (HR.out _ _ _ hvw hbw2).mono ?_;rintro e w2 ⟨rfl,hb2⟩;have hx2:=zAb hb2 hbl;obtain⟨⟨p0,p1,p2,p3,p4,p5⟩,_,xl2⟩:=zA9 hx2;have hbx:=hbw2.trans (hb2.mono hbw2.size);go_wp2_with fail;refine (HI.out _ (HT.out.below hbx)).mono ?_;rintro e w6 ⟨rfl,hb6⟩;have hby:=hbx.trans (hb6.mono hbx.size);go_wp2_with fail;have hj:=zAW w6.heap.size [zAC y 4,⟨#[94]⟩,⟨(Lib.itoa size).toArray⟩] 9 _ (zA4 w6 _) kCY kDp;simp only[List.length_cons,List.length_nil] at hj;refine hj.mono ?_;rintro e w3 ⟨rfl,hb3⟩;rw[← HCAT.out];have hbw3:=(hby.alloc hby.size (.cells #[.string (zAC y 4),.string ⟨#[94]⟩,.string ⟨(Lib.itoa size).toArray⟩] 9)).trans (hb3.mono (by simp;have:=hby.size;omega));have HL:=kA1 (fun b c d e f w'=>lev155 7 (.inl rfl) b c d e f w');clear hj hb1 hb2 hb3 hb6 HV HC HR HK q0 q1 q2 q3 q4 q5 hvw hbw hbw2 hbx hby hbl hx2 p0 p1 p2 p3 p4 p5 xl2 HI HT;have hm:=m155;have HB:=kA1 hbw3;have hrs:(cat [⟨#[40]⟩,r,⟨#[41]⟩]).size≤1000002:=by
  have hsz:=HSZ.out;rw[zDA];simp;have e1:(⟨#[40]⟩:ByteArray).size=1:=rfl;have e2:(⟨#[41]⟩:ByteArray).size=1:=rfl;omega
 have HS:=kA1 hrs;clear hrs
 cases hl':decide (3<least)
 ·have hl:=kA1 (kBr hl');go_wp2_with (go_at_call 311;refine (HL.out _ _ _ _ _ _).mono ?_;rintro e w4 ⟨rfl,hb4⟩);go_ret;exact⟨by rw[HR2.out,zDr kDa];rfl,HB.out.trans (hb4.mono HB.out.size)⟩
 ·have hl:=kA1 (kA8 hl');go_wp2_with fail;refine (HL.out _ _ _ _ _ _).mono ?_;rintro e w4 ⟨rfl,hb4⟩;go_wp2_with fail;have hj:=zAW w4.heap.size [⟨#[40]⟩,r,⟨#[41]⟩] 9 _ (zA4 w4 _) kCY (kAz HS.out kCW);simp only[List.length_cons,List.length_nil] at hj;refine hj.mono ?_;rintro e w5 ⟨rfl,hb5⟩;go_wp2;go_ret;have h4:=HB.out.trans (hb4.mono HB.out.size);exact⟨by rw[HR2.out,zCR kDa];rfl,(h4.alloc h4.size (.cells #[.string ⟨#[40]⟩,.string r,.string ⟨#[41]⟩] 9)).trans (hb5.mono kDh)⟩
end Go.Proofs.YtjaobihcdkjmbaaGreatDoor
end
section
namespace Go.Proofs
open Go.RowKit Go.Maps Go.Sort Go.Shelf
def Tryz.copy110_ren:Go.Shelf.Ren:=⟨fun | 5=>110 | n=>n,fun | 23=>116 | 24=>116 | 26=>9 | 27=>4 | 0=>0 | 4=>4 | n=>n,fun | n=>n⟩
theorem Tryz.copy110:Go.Proofs.SlLaysX.n5 Tryz.prog Tryz.copy110_ren:={
  mixed:=kCX
  f5:=⟨Tryz.f110.name,kD0,Tryz.func110.trans (congrArg some kCX)⟩
  t0:=Tryz.underlying0
  a0:=Tryz.isAgg0
  z0:=Tryz.sizeOf0
  v0:=Tryz.zeroValue0
  t4:=Tryz.underlying4
  a4:=Tryz.isAgg4
  z4:=Tryz.sizeOf4
  v4:=Tryz.zeroValue4
  t23:=Tryz.underlying116
  a23:=Tryz.isAgg116
  z23:=Tryz.sizeOf116
  v23:=Tryz.zeroValue116
  t24:=Tryz.underlying116
  a24:=Tryz.isAgg116
  z24:=Tryz.sizeOf116
  v24:=Tryz.zeroValue116
  a26:=Tryz.isAgg9
  z26:=Tryz.sizeOf9
  a27:=Tryz.isAgg4
  z27:=Tryz.sizeOf4 }
def Tryz.keys112_ren:Go.Shelf.Ren:=⟨fun | 7=>112 | 10=>149 | n=>n,fun | 23=>116 | 26=>9 | 3=>4 | 28=>169 | 0=>0 | 27=>168 | 33=>114 | 4=>4 | n=>n,fun | n=>n⟩
theorem Tryz.keys112:Go.Proofs.SlLaysZ.n7 Tryz.prog Tryz.keys112_ren:={
  mixed:=kCX
  f7:=⟨Tryz.f112.name,kD0,Tryz.func112.trans (congrArg some kCX)⟩
  f10:=⟨Tryz.f149.name,kD0,Tryz.func149.trans (congrArg some kCX)⟩
  t0:=Tryz.underlying0
  a0:=Tryz.isAgg0
  z0:=Tryz.sizeOf0
  v0:=Tryz.zeroValue0
  t4:=Tryz.underlying4
  a4:=Tryz.isAgg4
  z4:=Tryz.sizeOf4
  v4:=Tryz.zeroValue4
  t23:=Tryz.underlying116
  a23:=Tryz.isAgg116
  z23:=Tryz.sizeOf116
  v23:=Tryz.zeroValue116
  t26:=Tryz.underlying9
  a26:=Tryz.isAgg9
  z26:=Tryz.sizeOf9
  v26:=Tryz.zeroValue9
  t27:=Tryz.underlying168
  a27:=Tryz.isAgg168
  z27:=Tryz.sizeOf168
  v27:=Tryz.zeroValue168
  t28:=Tryz.underlying169
  a28:=Tryz.isAgg169
  z28:=Tryz.sizeOf169
  v28:=Tryz.zeroValue169
  t33:=Tryz.underlying114
  a33:=Tryz.isAgg114
  z33:=Tryz.sizeOf114
  v33:=Tryz.zeroValue114 }
def Tryz.sorted111_ren:Go.Shelf.Ren:=⟨fun | 6=>111 | 8=>147 | 9=>148 | 11=>173 | 13=>175 | 12=>174 | 23=>210 | 24=>211 | 14=>201 | 15=>202 | 16=>203 | 17=>204 | 18=>205 | 19=>206 | 20=>207 | 21=>208 | 22=>209 | 25=>242 | 26=>243 | 27=>244 | 28=>245 | 29=>246 | 30=>247 | 31=>272 | n=>n,fun | 26=>9 | 28=>169 | 24=>34 | 0=>0 | 3=>3 | 37=>157 | 48=>270 | 50=>75 | 4=>4 | 40=>264 | 39=>263 | 45=>164 | 5=>5 | 9=>9 | 51=>291 | 55=>294 | 57=>316 | 58=>201 | 33=>114 | n=>n,fun | n=>n⟩
theorem Tryz.sorted111:Go.Proofs.SlLaysZ.n6 Tryz.prog Tryz.sorted111_ren:={
  mixed:=kCX
  f6:=⟨Tryz.f111.name,kD0,Tryz.func111.trans (congrArg some kCX)⟩
  f8:=⟨Tryz.f147.name,kD0,Tryz.func147.trans (congrArg some kCX)⟩
  f11:=⟨Tryz.f173.name,kD0,Tryz.func173.trans (congrArg some kCX)⟩
  t0:=Tryz.underlying0
  a0:=Tryz.isAgg0
  z0:=Tryz.sizeOf0
  v0:=Tryz.zeroValue0
  t24:=Tryz.underlying34
  a24:=Tryz.isAgg34
  z24:=Tryz.sizeOf34
  v24:=Tryz.zeroValue34
  t26:=Tryz.underlying9
  a26:=Tryz.isAgg9
  z26:=Tryz.sizeOf9
  v26:=Tryz.zeroValue9
  t28:=Tryz.underlying169
  a28:=Tryz.isAgg169
  z28:=Tryz.sizeOf169
  v28:=Tryz.zeroValue169
  i26:=by kernel_rfl }
def Tryz.sort148_ren:Go.Shelf.Ren:=⟨fun | 6=>148 | 8=>175 | 9=>174 | 19=>210 | 20=>211 | 21=>201 | 22=>202 | 23=>203 | 24=>204 | 25=>205 | 26=>206 | 27=>207 | 28=>208 | 29=>209 | 36=>242 | 31=>243 | 32=>244 | 37=>245 | 38=>246 | 39=>247 | 41=>272 | n=>n,fun | 27=>34 | 29=>9 | 3=>3 | 32=>157 | 26=>34 | 0=>0 | 44=>270 | 46=>75 | 4=>4 | 36=>264 | 35=>263 | 41=>164 | 5=>5 | 9=>9 | 53=>291 | 57=>294 | 63=>316 | 64=>201 | n=>n,fun | n=>n⟩
theorem Tryz.sort148:Go.Proofs.SlLaysM.n6 Tryz.prog Tryz.sort148_ren:={
  mixed:=kCX
  f6:=⟨Tryz.f148.name,kD0,Tryz.func148.trans (congrArg some kCX)⟩
  f8:=Tryz.func175.trans (congrArg some kCX)
  f9:=⟨Tryz.f174.name,kD0,Tryz.func174.trans (congrArg some kCX)⟩
  f19:=Tryz.func210.trans (congrArg some kCX)
  f20:=Tryz.func211.trans (congrArg some kCX)
  f21:=⟨Tryz.f201.name,kD0,Tryz.func201.trans (congrArg some kCX)⟩
  f22:=⟨Tryz.f202.name,kD0,Tryz.func202.trans (congrArg some kCX)⟩
  f23:=⟨Tryz.f203.name,kD0,Tryz.func203.trans (congrArg some kCX)⟩
  f24:=⟨Tryz.f204.name,kD0,Tryz.func204.trans (congrArg some kCX)⟩
  f25:=⟨Tryz.f205.name,kD0,Tryz.func205.trans (congrArg some kCX)⟩
  f26:=⟨Tryz.f206.name,kD0,Tryz.func206.trans (congrArg some kCX)⟩
  f27:=⟨Tryz.f207.name,kD0,Tryz.func207.trans (congrArg some kCX)⟩
  f28:=⟨Tryz.f208.name,kD0,Tryz.func208.trans (congrArg some kCX)⟩
  f29:=⟨Tryz.f209.name,kD0,Tryz.func209.trans (congrArg some kCX)⟩
  f31:=Tryz.func243.trans (congrArg some kCX)
  f32:=Tryz.func244.trans (congrArg some kCX)
  f36:=⟨Tryz.f242.name,kD0,Tryz.func242.trans (congrArg some kCX)⟩
  f37:=⟨Tryz.f245.name,kD0,Tryz.func245.trans (congrArg some kCX)⟩
  f38:=⟨Tryz.f246.name,kD0,Tryz.func246.trans (congrArg some kCX)⟩
  f39:=⟨Tryz.f247.name,kD0,Tryz.func247.trans (congrArg some kCX)⟩
  f41:=⟨Tryz.f272.name,kD0,Tryz.func272.trans (congrArg some kCX)⟩
  t0:=Tryz.underlying0
  a0:=Tryz.isAgg0
  z0:=Tryz.sizeOf0
  v0:=Tryz.zeroValue0
  t3:=Tryz.underlying3
  a3:=Tryz.isAgg3
  z3:=Tryz.sizeOf3
  v3:=Tryz.zeroValue3
  t4:=Tryz.underlying4
  a4:=Tryz.isAgg4
  z4:=Tryz.sizeOf4
  v4:=Tryz.zeroValue4
  t5:=Tryz.underlying5
  a5:=Tryz.isAgg5
  z5:=Tryz.sizeOf5
  v5:=Tryz.zeroValue5
  t9:=Tryz.underlying9
  a9:=Tryz.isAgg9
  z9:=Tryz.sizeOf9
  v9:=Tryz.zeroValue9
  t26:=Tryz.underlying34
  a26:=Tryz.isAgg34
  z26:=Tryz.sizeOf34
  v26:=Tryz.zeroValue34
  t27:=Tryz.underlying34
  a27:=Tryz.isAgg34
  z27:=Tryz.sizeOf34
  v27:=Tryz.zeroValue34
  t29:=Tryz.underlying9
  a29:=Tryz.isAgg9
  z29:=Tryz.sizeOf9
  v29:=Tryz.zeroValue9
  t32:=Tryz.underlying157
  a32:=Tryz.isAgg157
  z32:=Tryz.sizeOf157
  v32:=Tryz.zeroValue157
  t35:=Tryz.underlying263
  a35:=Tryz.isAgg263
  z35:=Tryz.sizeOf263
  v35:=Tryz.zeroValue263
  t36:=Tryz.underlying264
  a36:=Tryz.isAgg264
  z36:=Tryz.sizeOf264
  v36:=Tryz.zeroValue264
  t41:=Tryz.underlying164
  a41:=Tryz.isAgg164
  z41:=Tryz.sizeOf164
  v41:=Tryz.zeroValue164
  t44:=Tryz.underlying270
  a44:=Tryz.isAgg270
  z44:=Tryz.sizeOf270
  v44:=Tryz.zeroValue270
  t46:=Tryz.underlying75
  a46:=Tryz.isAgg75
  z46:=Tryz.sizeOf75
  v46:=Tryz.zeroValue75
  t53:=Tryz.underlying291
  a53:=Tryz.isAgg291
  z53:=Tryz.sizeOf291
  v53:=Tryz.zeroValue291
  t57:=Tryz.underlying294
  a57:=Tryz.isAgg294
  z57:=Tryz.sizeOf294
  v57:=Tryz.zeroValue294
  t63:=Tryz.underlying316
  a63:=Tryz.isAgg316
  z63:=Tryz.sizeOf316
  v63:=Tryz.zeroValue316
  t64:=Tryz.underlying201
  a64:=Tryz.isAgg201
  z64:=Tryz.sizeOf201
  v64:=Tryz.zeroValue201 }
theorem Tryz.sorts111 (m:Nat):AnyZ.SortsIn Tryz.prog Tryz.sorted111_ren Fence.wide m :=
  ⟨fun blk off cap ss W hH hblk hsz=>kBo.2 (AnyM.slices_Sort_string Tryz.sort148 blk off cap ss W hH hblk hsz),
   fun p cap W=>kBo.2 (AnyM.slices_Sort_string_none Tryz.sort148 p cap W)⟩
theorem Tryz.maps_Keys_112 (mb:Option Nat) (W:World):CallsIn Fence.wide 5 Tryz.prog 112 #[.map mb] W fun e w'=>e=.returned (.func (.func 149) #[] #[.pointer (some ⟨W.heap.size,0,none⟩)])∧w'=W.alloc (.cells #[.map mb] 116) :=
  AnyZ.keys_in Tryz.keys112 Fence.wide 5 trivial rfl mb W
theorem Tryz.slices_Sorted_keys_111_112 {H:Type} (b nn:Nat) (D0:DataW H) (R:Value→Option (DataW H×List MemPlace)) (w:World) (hown:w.ownsMap Tryz.prog 9 R b nn D0) (hmax:Maps.size D0≤maxLen) (hbytes:Maps.size D0*16≤140737488355328) :
    CallsIn Fence.wide 5 Tryz.prog 111 #[.func (.func 149) #[] #[.pointer (some ⟨w.heap.size,0,none⟩)]] (w.alloc (.cells #[.map (some b)] 116)) fun e w'=>∃(v:Value) (ss:List (List UInt8)),e=.returned v∧ss.Perm (strKeys D0) ∧
      w'.ownsRow (w.alloc (.cells #[.map (some b)] 116)).heap.size 9 1 v ss.length ((ss.mergeSort (fun x y=>decide (x≤y))).map encStr)∧(v=.slice none 0 0↔ss=[])∧Below (w.alloc (.cells #[.map (some b)] 116)).heap.size (w.alloc (.cells #[.map (some b)] 116)) w':=by
  have hbl:=hown.lt;have hseq:SeqGives Fence.wide 2 Tryz.prog 149 #[.pointer (some ⟨w.heap.size,0,none⟩)] encStr (fun ss=>ss.Perm (strKeys D0)) (Maps.size D0) (w.alloc (.cells #[.map (some b)] 116)) :=
    AnyZ.keys_gives (ρ:=Tryz.keys112_ren) { Tryz.keys112 with } Fence.wide _ trivial rfl kCW w.heap.size b nn D0 _ kCY kCY (by
      obtain⟨es,clock,hb,Ft,hs,hD⟩:=hown;exact⟨es,clock,(kA4 _ _ b hbl).trans hb,Ft,hs,hD⟩)
  exact AnyZ.sorted_in Tryz.sorted111 Fence.wide 5 trivial trivial trivial trivial rfl kCW (Tryz.sorts111 _) (enters_of Tryz.func148 kCX rfl) 149 #[.pointer (some ⟨w.heap.size,0,none⟩)] trivial (enters_of Tryz.func149 kCX rfl) _ _ hmax hbytes _ hseq
end Go.Proofs
end
section
namespace Go.Proofs.YtjaobihcdkjmbaaGreatDoor
open Go.RowKit Go.Maps Go.Proofs.YtjaobihcdkjmbaaGreatDoorW.PrintWords Go.Proofs.YtjaobihcdkjmbaaGreatDoor.PReadTokens
theorem kindT4 {op:Int} (h:op≠10∧op≠11∧op≠12∧op≠13):zDm op=152∨zDm op=154∨zDm op=155∨zDm op=156:=by
 unfold zDm;rw[kAa kCW];by_cases h1:op=3∨op=4∨op=5∨op=6
 ·rw[kAb h1];exact .inl rfl
 ·rw[kAa h1];by_cases h2:op=2
  ·rw[kAb h2];exact .inr (.inl rfl)
  ·rw[kAa h2];by_cases h3:op=7∨op=9
   ·rw[kAb h3];exact .inr (.inr (.inl rfl))
   ·rw[kAa h3];exact .inr (.inr (.inr rfl))
theorem ta_other {t:TypeId} (h:t=152∨t=154∨t=155∨t=156) (v:Value) (w:World):(Instr.typeAssert (.iface t v) 147 150 true).run Tryz.prog w=.ok (.tuple #[zE,.bool false]) w:=by
 rcases h with rfl | rfl | rfl | rfl
 ·exact zDI v w
 ·exact ta154_150 v w
 ·exact ta155_150 v w
 ·exact ta156_150 v w
theorem binds_no (x:S31) (A:Option Addr) (n c:Nat) (h:x.f0≠10∧x.f0≠11∧x.f0≠12∧x.f0≠13) (w:World) :
  Calls Tryz.prog 109 #[exV x (.slice A n c)] w fun e w'=>e=.returned (.tuple #[.int .i64 0,.bool false])∧Below w.heap.size w w':=by
 have hk:=zBo x A n c;have hta:=fun v w=>ta_other (kindT4 h) v w
 obtain⟨f0,f1,f2,f3,xs⟩:=x;simp only at *;generalize zDm f0=kt at *;unfold exV at *;simp only at *;clear h;go_enter Tryz.func109,Tryz.ntmps109;go_wp2_with (go_at_call 96;refine (hk _).mono ?_;rintro e w1 ⟨rfl,hb1⟩);refine kAg (results_tmp2 rfl _ _ _) rfl ⟨rfl,?_⟩;have h1:=((kA3 _ w).alloc (kA2 _) (.cells #[.int .i64 f0,.string f1.f0,.string f1.f1,.string f2,.int .i64 f3,.slice A n c] 31)).trans (hb1.mono kCY);exact h1.alloc h1.size _
theorem law9:Keyed Tryz.prog 9:=string_keyed Tryz.underlying9
abbrev MapAt (w:World) (b n:Nat) (D:DataW Unit):Prop:=w.ownsMap Tryz.prog 9 (plainElem Tryz.prog 4) b n D
theorem zE1 (bd bs nd ns:Nat) (Dd Ds:DataW Unit) (w:World) (hd:MapAt w bd nd Dd) (hs:MapAt w bs ns Ds) (hne:bd≠bs) (hroom:nd+Maps.size Ds≤maxLen) :
  Calls Tryz.prog 110 #[.map (some bd),.map (some bs)] w fun e w'=>e=.returned (.tuple #[])∧MapAt w' bd (nd+Maps.size Ds) (Lib.mergeD Dd Ds)∧w.grownBy w' (some bd) :=
 (AnyX.maps_Copy Tryz.copy110 law9 (plainElem Tryz.prog 4) bd bs nd ns Dd Ds w hd hs hne hroom).mono fun _ _ ⟨h1,h2,_,h4⟩=>⟨h1,h2,h4⟩
def ownD (x:S31):DataW Unit:=if x.f0=1 then (DataW.map []).put (.string x.f2.data.toList) (.lit (.bool true)) else .map []
end Go.Proofs.YtjaobihcdkjmbaaGreatDoor
end
section
namespace Go.Proofs.YtjaobihcdkjmbaaGreatDoor.PReadTokens
open Go.RowKit Go.Proofs.YtjaobihcdkjmbaaGreatDoorW.PrintWords Go.Proofs.YtjaobihcdkjmbaaGreatDoorW.PrintLast Go.Proofs.YtjaobihcdkjmbaaGreatDoorW.PrintMore
section
attribute [local go_sem] zCG zCE zDx zDw zC9 zC8 zCF zCD   -- for this text's walks alone
set_option linter.unusedVariables false
set_option linter.unusedSimpArgs false
def metewandref13_small.f (a0:Int):Option (Bool):=if a0≥97 then (some (decide (a0≤122))) else (some false)
theorem metewandref13_small.calls (a0:Int) (r:Bool) (w:World) (h:metewandref13_small.f a0=some r) :
  Calls Tryz.prog 115 #[.int .u8 a0] w fun e w'=>e=.returned (.bool r)∧Drawn0 w w':=by
 have H:(if a0≥97 then (some (decide (a0≤122))) else (some false))=some r:=h;clear h;by_cases c2:a0≥97
 ·rw[kAb c2] at H;have c2b0:decide (97≤a0)=true:=kA5 c2;clear c2;obtain rfl:=kAc H;go_enter Tryz.func115,Tryz.ntmps115;go_wp2;go_ret;exact⟨kD8,by repeat (first | exact Drawn0.refl _ | apply Drawn0.step)⟩
 ·rw[kAa c2] at H;have c2b0:decide (97≤a0)=false:=kA6 c2;clear c2;obtain rfl:=kAc H;go_enter Tryz.func115,Tryz.ntmps115;go_wp2;go_ret;exact⟨kD8,by repeat (first | exact Drawn0.refl _ | apply Drawn0.step)⟩
def metewandref13_Word.f (a0:ByteArray):Option (Bool):=if a0.toList=([102,117,110]:List UInt8) then (some true) else (if a0.toList=([108,101,116]:List UInt8) then (some true) else (if a0.toList=([115,104,111,119]:List UInt8) then (some true) else (if a0.toList=([105,102]:List UInt8) then (some true) else (if a0.toList=([116,104,101,110]:List UInt8) then (some true) else (if a0.toList=([101,108,115,101]:List UInt8) then (some true) else (if a0.toList=([105,110]:List UInt8) then (some true) else (if a0.toList=([116,97,98]:List UInt8) then (some true) else (some (a0.toList==([115,117,109]:List UInt8))))))))))
theorem metewandref13_Word.calls (a0:ByteArray) (r:Bool) (w:World) (h:metewandref13_Word.f a0=some r) :
  Calls Tryz.prog 116 #[.string a0] w fun e w'=>e=.returned (.bool r)∧Drawn0 w w':=by
 have H:(if a0.toList=([102,117,110]:List UInt8) then (some true) else (if a0.toList=([108,101,116]:List UInt8) then (some true) else (if a0.toList=([115,104,111,119]:List UInt8) then (some true) else (if a0.toList=([105,102]:List UInt8) then (some true) else (if a0.toList=([116,104,101,110]:List UInt8) then (some true) else (if a0.toList=([101,108,115,101]:List UInt8) then (some true) else (if a0.toList=([105,110]:List UInt8) then (some true) else (if a0.toList=([116,97,98]:List UInt8) then (some true) else (some (a0.toList==([115,117,109]:List UInt8)))))))))))=some r:=h;clear h;by_cases c2:a0.toList=([102,117,110]:List UInt8)
 ·rw[kAb c2] at H;have c2b0:(a0.toList==([102,117,110]:List UInt8))=true:=beq_iff_eq.mpr c2;have c2b1:(a0.toList != ([102,117,110]:List UInt8))=false:=bne_eq_false_iff_eq.mpr c2;clear c2;obtain rfl:=kAc H;go_enter Tryz.func116,Tryz.ntmps116;go_wp2;go_ret;exact⟨kD8,by repeat (first | exact Drawn0.refl _ | apply Drawn0.step)⟩
 ·rw[kAa c2] at H;have c2b0:(a0.toList==([102,117,110]:List UInt8))=false:=beq_eq_false_iff_ne.mpr c2;have c2b1:(a0.toList != ([102,117,110]:List UInt8))=true:=bne_iff_ne.mpr c2;by_cases c3:a0.toList=([108,101,116]:List UInt8)
  ·rw[kAb c3] at H;have c3b0:(a0.toList==([108,101,116]:List UInt8))=true:=beq_iff_eq.mpr c3;have c3b1:(a0.toList != ([108,101,116]:List UInt8))=false:=bne_eq_false_iff_eq.mpr c3;clear c3;obtain rfl:=kAc H;go_enter Tryz.func116,Tryz.ntmps116;go_wp2;go_ret;exact⟨kD8,by repeat (first | exact Drawn0.refl _ | apply Drawn0.step)⟩
  ·rw[kAa c3] at H;have c3b0:(a0.toList==([108,101,116]:List UInt8))=false:=beq_eq_false_iff_ne.mpr c3;have c3b1:(a0.toList != ([108,101,116]:List UInt8))=true:=bne_iff_ne.mpr c3;by_cases c4:a0.toList=([115,104,111,119]:List UInt8)
   ·rw[kAb c4] at H;have c4b0:(a0.toList==([115,104,111,119]:List UInt8))=true:=beq_iff_eq.mpr c4;have c4b1:(a0.toList != ([115,104,111,119]:List UInt8))=false:=bne_eq_false_iff_eq.mpr c4;clear c4;obtain rfl:=kAc H;go_enter Tryz.func116,Tryz.ntmps116;go_wp2;go_ret;exact⟨kD8,by repeat (first | exact Drawn0.refl _ | apply Drawn0.step)⟩
   ·rw[kAa c4] at H;have c4b0:(a0.toList==([115,104,111,119]:List UInt8))=false:=beq_eq_false_iff_ne.mpr c4;have c4b1:(a0.toList != ([115,104,111,119]:List UInt8))=true:=bne_iff_ne.mpr c4;by_cases c5:a0.toList=([105,102]:List UInt8)
    ·rw[kAb c5] at H;have c5b0:(a0.toList==([105,102]:List UInt8))=true:=beq_iff_eq.mpr c5;have c5b1:(a0.toList != ([105,102]:List UInt8))=false:=bne_eq_false_iff_eq.mpr c5;clear c5;obtain rfl:=kAc H;go_enter Tryz.func116,Tryz.ntmps116;go_wp2;go_ret;exact⟨kD8,by repeat (first | exact Drawn0.refl _ | apply Drawn0.step)⟩
    ·rw[kAa c5] at H;have c5b0:(a0.toList==([105,102]:List UInt8))=false:=beq_eq_false_iff_ne.mpr c5;have c5b1:(a0.toList != ([105,102]:List UInt8))=true:=bne_iff_ne.mpr c5;by_cases c6:a0.toList=([116,104,101,110]:List UInt8)
     ·rw[kAb c6] at H;have c6b0:(a0.toList==([116,104,101,110]:List UInt8))=true:=beq_iff_eq.mpr c6;have c6b1:(a0.toList != ([116,104,101,110]:List UInt8))=false:=bne_eq_false_iff_eq.mpr c6;clear c6;obtain rfl:=kAc H;go_enter Tryz.func116,Tryz.ntmps116;go_wp2;go_ret;exact⟨kD8,by repeat (first | exact Drawn0.refl _ | apply Drawn0.step)⟩
     ·rw[kAa c6] at H;have c6b0:(a0.toList==([116,104,101,110]:List UInt8))=false:=beq_eq_false_iff_ne.mpr c6;have c6b1:(a0.toList != ([116,104,101,110]:List UInt8))=true:=bne_iff_ne.mpr c6;by_cases c7:a0.toList=([101,108,115,101]:List UInt8)
      ·rw[kAb c7] at H;have c7b0:(a0.toList==([101,108,115,101]:List UInt8))=true:=beq_iff_eq.mpr c7;have c7b1:(a0.toList != ([101,108,115,101]:List UInt8))=false:=bne_eq_false_iff_eq.mpr c7;clear c7;obtain rfl:=kAc H;go_enter Tryz.func116,Tryz.ntmps116;go_wp2;go_ret;exact⟨kD8,by repeat (first | exact Drawn0.refl _ | apply Drawn0.step)⟩
      ·rw[kAa c7] at H;have c7b0:(a0.toList==([101,108,115,101]:List UInt8))=false:=beq_eq_false_iff_ne.mpr c7;have c7b1:(a0.toList != ([101,108,115,101]:List UInt8))=true:=bne_iff_ne.mpr c7;by_cases c8:a0.toList=([105,110]:List UInt8)
       ·rw[kAb c8] at H;have c8b0:(a0.toList==([105,110]:List UInt8))=true:=beq_iff_eq.mpr c8;have c8b1:(a0.toList != ([105,110]:List UInt8))=false:=bne_eq_false_iff_eq.mpr c8;clear c8;obtain rfl:=kAc H;go_enter Tryz.func116,Tryz.ntmps116;go_wp2;go_ret;exact⟨kD8,by repeat (first | exact Drawn0.refl _ | apply Drawn0.step)⟩
       ·rw[kAa c8] at H;have c8b0:(a0.toList==([105,110]:List UInt8))=false:=beq_eq_false_iff_ne.mpr c8;have c8b1:(a0.toList != ([105,110]:List UInt8))=true:=bne_iff_ne.mpr c8;by_cases c9:a0.toList=([116,97,98]:List UInt8)
        ·rw[kAb c9] at H;have c9b0:(a0.toList==([116,97,98]:List UInt8))=true:=beq_iff_eq.mpr c9;have c9b1:(a0.toList != ([116,97,98]:List UInt8))=false:=bne_eq_false_iff_eq.mpr c9;clear c9;obtain rfl:=kAc H;go_enter Tryz.func116,Tryz.ntmps116;go_wp2;go_ret;exact⟨kD8,by repeat (first | exact Drawn0.refl _ | apply Drawn0.step)⟩
        ·rw[kAa c9] at H;have c9b0:(a0.toList==([116,97,98]:List UInt8))=false:=beq_eq_false_iff_ne.mpr c9;have c9b1:(a0.toList != ([116,97,98]:List UInt8))=true:=bne_iff_ne.mpr c9;obtain rfl:=kAc H;go_enter Tryz.func116,Tryz.ntmps116;go_wp2;go_ret;exact⟨kD8,by repeat (first | exact Drawn0.refl _ | apply Drawn0.step)⟩
def metewandref13_digit.f (a0:Int):Option (Bool):=if a0≥48 then (some (decide (a0≤57))) else (some false)
theorem metewandref13_digit.calls (a0:Int) (r:Bool) (w:World) (h:metewandref13_digit.f a0=some r) :
  Calls Tryz.prog 117 #[.int .u8 a0] w fun e w'=>e=.returned (.bool r)∧Drawn0 w w':=by
 have H:(if a0≥48 then (some (decide (a0≤57))) else (some false))=some r:=h;clear h;by_cases c2:a0≥48
 ·rw[kAb c2] at H;have c2b0:decide (48≤a0)=true:=kA5 c2;clear c2;obtain rfl:=kAc H;go_enter Tryz.func117,Tryz.ntmps117;go_wp2;go_ret;exact⟨kD8,by repeat (first | exact Drawn0.refl _ | apply Drawn0.step)⟩
 ·rw[kAa c2] at H;have c2b0:decide (48≤a0)=false:=kA6 c2;clear c2;obtain rfl:=kAc H;go_enter Tryz.func117,Tryz.ntmps117;go_wp2;go_ret;exact⟨kD8,by repeat (first | exact Drawn0.refl _ | apply Drawn0.step)⟩
end
section
attribute [local go_sem] zCG zCE zDx zDw zC9 zC8 zCF zCD   -- for this text's walks alone
set_option linter.unusedVariables false
set_option linter.unusedSimpArgs false
mutual
def metewandref13_Name.j0:Nat→ByteArray→Bool→Option (Bool)
 | 0,_,_=>none
 | k+1,x0,x21=>if x21=true then (some false) else (metewandref13_Name.l0 k x0 0)
def metewandref13_Name.l0:Nat→ByteArray→Int→Option (Bool)
 | 0,_,_=>none
 | k+1,x0,x3=>if x3<(x0.size:Int) then (if 0≤x3 then ((metewandref13_small.f (bt x0 x3)).bind fun t400=>(if t400=true then (metewandref13_Name.l0 k x0 (wrap64 (x3+1))) else ((metewandref13_digit.f (bt x0 x3)).bind fun t401=>(if t401=true then (metewandref13_Name.l0 k x0 (wrap64 (x3+1))) else (some false))))) else (none)) else (some true)
end
def metewandref13_Name.f (k:Nat) (a0:ByteArray):Option (Bool):=if (a0.size:Int)=0 then (metewandref13_Name.j0 k a0 true) else (if (a0.size:Int) > 12 then (metewandref13_Name.j0 k a0 true) else (if 0<(a0.size:Int) then ((metewandref13_small.f (bt a0 0)).bind fun t398=>(if t398=true then ((metewandref13_Word.f a0).bind fun t399=>(metewandref13_Name.j0 k a0 t399)) else (metewandref13_Name.j0 k a0 true))) else (none)))
theorem metewandref13_Name.mono_l:∀k,(∀y0 y1,LeO (metewandref13_Name.j0 k y0 y1) (metewandref13_Name.j0 (k+1) y0 y1))∧(∀y0 y1,LeO (metewandref13_Name.l0 k y0 y1) (metewandref13_Name.l0 (k+1) y0 y1))
 | 0=>⟨fun _ _ r h=>by simp[metewandref13_Name.j0] at h,fun _ _ r h=>by simp[metewandref13_Name.l0] at h⟩
 | k+1=>by
  obtain⟨ih0,ih1⟩:=metewandref13_Name.mono_l k;refine⟨?_,?_⟩
  ·intro y0 y1;unfold metewandref13_Name.j0
   repeat' first
   | (with_reducible exact ih0 _ _)
   | (with_reducible exact ih1 _ _)
   | (with_reducible exact LeO.refl _)
   | (with_reducible exact LeO.none _)
   | (with_reducible refine LeO.ite ?_ ?_)
   | (with_reducible refine LeO.bind ?_ (fun _=>?_))
   | exact ih0 _ _
   | exact ih1 _ _
   | exact LeO.none _
   | refine LeO.ite ?_ ?_
   | refine LeO.bind ?_ (fun _=>?_)
  ·intro y0 y1;unfold metewandref13_Name.l0
   repeat' first
   | (with_reducible exact ih0 _ _)
   | (with_reducible exact ih1 _ _)
   | (with_reducible exact LeO.refl _)
   | (with_reducible exact LeO.none _)
   | (with_reducible refine LeO.ite ?_ ?_)
   | (with_reducible refine LeO.bind ?_ (fun _=>?_))
   | exact ih0 _ _
   | exact ih1 _ _
   | exact LeO.none _
   | refine LeO.ite ?_ ?_
   | refine LeO.bind ?_ (fun _=>?_)
theorem metewandref13_Name.mono:∀a0 k,LeO (metewandref13_Name.f k a0) (metewandref13_Name.f (k+1) a0):=by
 intro a0 k;obtain⟨ih0,ih1⟩:=metewandref13_Name.mono_l k;unfold metewandref13_Name.f
 repeat' first
   | (with_reducible exact ih0 _ _)
   | (with_reducible exact ih1 _ _)
   | (with_reducible exact LeO.refl _)
   | (with_reducible exact LeO.none _)
   | (with_reducible refine LeO.ite ?_ ?_)
   | (with_reducible refine LeO.bind ?_ (fun _=>?_))
   | exact ih0 _ _
   | exact ih1 _ _
   | exact LeO.none _
   | refine LeO.ite ?_ ?_
   | refine LeO.bind ?_ (fun _=>?_)
theorem metewandref13_Name.calls (k:Nat) (a0:ByteArray) (r:Bool) (w:World) (h:metewandref13_Name.f k a0=some r) :
  Calls Tryz.prog 80 #[.string a0] w fun e w'=>e=.returned (.bool r)∧Drawn0 w w':=by
 have H:(if (a0.size:Int)=0 then (metewandref13_Name.j0 k a0 true) else (if (a0.size:Int) > 12 then (metewandref13_Name.j0 k a0 true) else (if 0<(a0.size:Int) then ((metewandref13_small.f (bt a0 0)).bind fun t398=>(if t398=true then ((metewandref13_Word.f a0).bind fun t399=>(metewandref13_Name.j0 k a0 t399)) else (metewandref13_Name.j0 k a0 true))) else (none))))=some r:=h;clear h;have HC2:=Aside0.mk H;clear H;go_enter Tryz.func80,Tryz.ntmps80;go_upto_region 1 with (fail);go_cut [21] (fun v21 wc=>∃(kq:Nat) (x21_1:Bool),v21=.bool x21_1∧Aside0 (metewandref13_Name.j0 kq a0 x21_1=some r)∧Aside0 (kq≤k)∧Drawn0 w wc)
 case first =>
  have H:=HC2.out;clear HC2;by_cases c3:(a0.size:Int)=0
  ·rw[kAb c3] at H;have c3b0:((a0.size:Int)==0)=true:=beq_iff_eq.mpr c3;have c3b1:((a0.size:Int) != 0)=false:=bne_eq_false_iff_eq.mpr c3;clear c3
   (first | rw[c3b0] | (simp only[zAg,zAh];rw[c3b0]) | skip)
   have H':=Aside0.mk H;clear H;go_wp2
   go_meet
   case rel=>exact⟨_,(true),kD8,H',⟨by first | omega | exact kA2 _⟩,by repeat (first | exact Drawn0.refl _ | apply Drawn0.step)⟩
  ·rw[kAa c3] at H;have c3b0:((a0.size:Int)==0)=false:=beq_eq_false_iff_ne.mpr c3;have c3b1:((a0.size:Int) != 0)=true:=bne_iff_ne.mpr c3
   (first | rw[c3b0] | (simp only[zAg,zAh];rw[c3b0]) | skip)
   by_cases c4:(a0.size:Int) > 12
   ·rw[kAb c4] at H;have c4b0:decide (12<(a0.size:Int))=true:=kA5 c4;have c4b1:decide (12<a0.size)=true:=kA5 kCW;clear c4;have H':=Aside0.mk H;clear H;go_wp2
    go_meet
    case rel=>exact⟨_,(true),kD8,H',⟨by first | omega | exact kA2 _⟩,by repeat (first | exact Drawn0.refl _ | apply Drawn0.step)⟩
   ·rw[kAa c4] at H;have c4b0:decide (12<(a0.size:Int))=false:=kA6 c4;have c4b1:decide (12<a0.size)=false:=kA6 kCW;clear c4;by_cases c5:0<(a0.size:Int)
    ·rw[kAb c5] at H;have c5b0:decide (0<(a0.size:Int))=true:=kA5 c5;have c5b1:decide (0<a0.size)=true:=kA5 kCW;clear c5;replace H:=Option.bind_eq_some_iff.mp H;obtain⟨t398,A70,H⟩:=H;replace H:(if t398=true then ((metewandref13_Word.f a0).bind fun t399=>(metewandref13_Name.j0 k a0 t399)) else (metewandref13_Name.j0 k a0 true))=some r:=H;have A7:=Aside0.mk A70;clear A70;by_cases c8:t398=true
     ·subst c8;have H1:((metewandref13_Word.f a0).bind fun t399=>(metewandref13_Name.j0 k a0 t399))=some r:=by rw[kAb rfl] at H;exact H
      clear H;have H:=H1;clear H1;replace H:=Option.bind_eq_some_iff.mp H;obtain⟨t399,A90,H⟩:=H;replace H:(metewandref13_Name.j0 k a0 t399)=some r:=H;have A9:=Aside0.mk A90;clear A90;have H':=Aside0.mk H;clear H;have p6:0≤(0:Int):=kCW;have q6:0<a0.size:=(by have:(0:Int)<(a0.size:Int):=kA8 kD1;omega);have hx6:∀h:0<a0.size,((a0[0]'h).toNat:Int)=bt a0 0:=zBA a0 0;clear p6;have qi6:(0<(a0.size:Int))=True:=kAs (kA8 kD1);replace q6:=kAs q6;go_wp2_with (first | (go_at_call 115;(with_reducible refine (metewandref13_small.calls (bt a0 0) true _ A7.out).mono ?_);rintro e w' ⟨rfl,⟨nd,rfl⟩⟩) | (go_at_call 116;(with_reducible refine (metewandref13_Word.calls a0 t399 _ A9.out).mono ?_);rintro e w' ⟨rfl,⟨nd,rfl⟩⟩))
      go_meet
      case rel=>exact⟨_,(t399),kD8,H',⟨by first | omega | exact kA2 _⟩,by repeat (first | exact Drawn0.refl _ | apply Drawn0.step)⟩
     ·replace c8:=Bool.eq_false_iff.mpr c8;subst c8;have H1:(metewandref13_Name.j0 k a0 true)=some r:=by rw[kAa (show ¬(false=true) by decide)] at H;exact H
      clear H;have H:=H1;clear H1;have H':=Aside0.mk H;clear H;have p6:0≤(0:Int):=kCW;have q6:0<a0.size:=(by have:(0:Int)<(a0.size:Int):=kA8 kD1;omega);have hx6:∀h:0<a0.size,((a0[0]'h).toNat:Int)=bt a0 0:=zBA a0 0;clear p6;have qi6:(0<(a0.size:Int))=True:=kAs (kA8 kD1);replace q6:=kAs q6;go_wp2_with (first | (go_at_call 115;(with_reducible refine (metewandref13_small.calls (bt a0 0) false _ A7.out).mono ?_);rintro e w' ⟨rfl,⟨nd,rfl⟩⟩))
      go_meet
      case rel=>exact⟨_,(true),kD8,H',⟨by first | omega | exact kA2 _⟩,by repeat (first | exact Drawn0.refl _ | apply Drawn0.step)⟩
    ·rw[kAa c5] at H;exact absurd H kCY
 case rest =>
  clear HC2
  try clear p2
  try clear c3
  try clear c3b0
  try clear c3b1
  try clear c4
  try clear c4b0
  try clear c4b1
  try clear c5
  try clear c5b0
  try clear c5b1
  try clear p6
  try clear q6
  try clear hx6
  try clear qi6
  try clear c8
  try clear p6
  try clear q6
  obtain⟨kq,x21_1,rfl,HA,HJ1,⟨mc1,rfl⟩⟩:=hcut
  cases kq with
  | zero=>exact absurd HA.out (by simp[metewandref13_Name.j0])
  | succ kj1 =>
   have H:=HA.out;clear HA;simp only[metewandref13_Name.j0] at H;by_cases c10:x21_1=true
   ·subst c10;have H1:(some false)=some r:=by rw[kAb rfl] at H;exact H
    clear H;have H:=H1;clear H1;obtain rfl:=kAc H;go_wp2;go_ret;exact⟨kD8,by repeat (first | exact Drawn0.refl _ | apply Drawn0.step)⟩
   ·replace c10:=Bool.eq_false_iff.mpr c10;subst c10;have H1:(metewandref13_Name.l0 kj1 a0 0)=some r:=by rw[kAa (show ¬(false=true) by decide)] at H;exact H
    clear H;have H:=H1;clear H1;have H':=Aside0.mk H;clear H;go_wp2;go_loopg [3] kj1 (fun kq v3 w'=>∃(x3_2:Int),v3=.int .i64 x3_2∧Aside0 (metewandref13_Name.l0 kq a0 x3_2=some r)∧Aside0 (kq≤kj1)∧Drawn0 w w')
    case atStart=>exact⟨(0),kD8,H',⟨kA2 _⟩,by repeat (first | exact Drawn0.refl _ | apply Drawn0.step)⟩
    case round =>
     clear H'
     try clear c1
     try clear p2
     try clear c3
     try clear c3b0
     try clear c3b1
     try clear c4
     try clear c4b0
     try clear c4b1
     try clear c5
     try clear c5b0
     try clear c5b1
     try clear p6
     try clear q6
     try clear hx6
     try clear qi6
     try clear c8
     try clear c10
     try clear p2
     try clear p6
     try clear q6
     obtain⟨x3_2,rfl,HA,HK2,⟨m2,rfl⟩⟩:=hrel
     cases gk with
     | zero=>exact absurd HA.out (by simp[metewandref13_Name.l0])
     | succ k2 =>
      have H:=HA.out;clear HA;simp only[metewandref13_Name.l0] at H;by_cases c11:x3_2<(a0.size:Int)
      ·rw[kAb c11] at H;have c11b0:decide (x3_2<(a0.size:Int))=true:=kA5 c11;clear c11;by_cases c12:0≤x3_2
       ·rw[kAb c12] at H;have c12b0:decide (0≤x3_2)=true:=kA5 c12;clear c12;replace H:=Option.bind_eq_some_iff.mp H;obtain⟨t400,A140,H⟩:=H;replace H:(if t400=true then (metewandref13_Name.l0 k2 a0 (wrap64 (x3_2+1))) else ((metewandref13_digit.f (bt a0 x3_2)).bind fun t401=>(if t401=true then (metewandref13_Name.l0 k2 a0 (wrap64 (x3_2+1))) else (some false))))=some r:=H;have A14:=Aside0.mk A140;clear A140;by_cases c15:t400=true
        ·subst c15;have H1:(metewandref13_Name.l0 k2 a0 (wrap64 (x3_2+1)))=some r:=by rw[kAb rfl] at H;exact H
         clear H;have H:=H1;clear H1;have H':=Aside0.mk H;clear H;have p13:0≤(x3_2:Int):=kA8 kD1;have q13:x3_2<(a0.size:Int):=kA8 kD1;have hx13:=zBA a0 x3_2;replace p13:=kAs p13;replace q13:=kAs q13;go_wp2_with (first | ((with_reducible refine zAc (f:=115) rfl ?_);refine zAQ (some 31) rfl rfl Tryz.func115 kCX rfl #[.int .u8 (bt a0 x3_2)] rfl kD4 ?_;(with_reducible refine (metewandref13_small.calls (bt a0 x3_2) true _ A14.out).mono ?_);rintro e w' ⟨rfl,⟨nd,rfl⟩⟩;refine⟨_,rfl,?_⟩));go_roundg k2
         case measure=>have:=HJ1.out;have:=HK2.out;omega
         case rel=>exact⟨(wrap64 (x3_2+1)),kD8,H',⟨by have:=HJ1.out;have:=HK2.out;omega⟩,by repeat (first | exact Drawn0.refl _ | apply Drawn0.step)⟩
        ·replace c15:=Bool.eq_false_iff.mpr c15;subst c15;have H1:((metewandref13_digit.f (bt a0 x3_2)).bind fun t401=>(if t401=true then (metewandref13_Name.l0 k2 a0 (wrap64 (x3_2+1))) else (some false)))=some r:=by rw[kAa (show ¬(false=true) by decide)] at H;exact H
         clear H;have H:=H1;clear H1;replace H:=Option.bind_eq_some_iff.mp H;obtain⟨t401,A170,H⟩:=H;replace H:(if t401=true then (metewandref13_Name.l0 k2 a0 (wrap64 (x3_2+1))) else (some false))=some r:=H;have A17:=Aside0.mk A170;clear A170;by_cases c18:t401=true
         ·subst c18;have H1:(metewandref13_Name.l0 k2 a0 (wrap64 (x3_2+1)))=some r:=by rw[kAb rfl] at H;exact H
          clear H;have H:=H1;clear H1;have H':=Aside0.mk H;clear H;have p13:0≤(x3_2:Int):=kA8 kD1;have q13:x3_2<(a0.size:Int):=kA8 kD1;have hx13:=zBA a0 x3_2;replace p13:=kAs p13;replace q13:=kAs q13;go_wp2_with (first | ((with_reducible refine zAc (f:=115) rfl ?_);refine zAQ (some 31) rfl rfl Tryz.func115 kCX rfl #[.int .u8 (bt a0 x3_2)] rfl kD4 ?_;(with_reducible refine (metewandref13_small.calls (bt a0 x3_2) false _ A14.out).mono ?_);rintro e w' ⟨rfl,⟨nd,rfl⟩⟩;refine⟨_,rfl,?_⟩;have p16:0≤(x3_2:Int):=kA8 kD1;have q16:x3_2<(a0.size:Int):=kA8 kD1;have hx16:=zBA a0 x3_2;replace p16:=kAs p16;replace q16:=kAs q16) | (go_at_call 117;(with_reducible refine (metewandref13_digit.calls (bt a0 x3_2) true _ A17.out).mono ?_);rintro e w' ⟨rfl,⟨nd,rfl⟩⟩));go_roundg k2
          case measure=>have:=HJ1.out;have:=HK2.out;omega
          case rel=>exact⟨(wrap64 (x3_2+1)),kD8,H',⟨by have:=HJ1.out;have:=HK2.out;omega⟩,by repeat (first | exact Drawn0.refl _ | apply Drawn0.step)⟩
         ·replace c18:=Bool.eq_false_iff.mpr c18;subst c18;have H1:(some false)=some r:=by rw[kAa (show ¬(false=true) by decide)] at H;exact H
          clear H;have H:=H1;clear H1;obtain rfl:=kAc H;have p13:0≤(x3_2:Int):=kA8 kD1;have q13:x3_2<(a0.size:Int):=kA8 kD1;have hx13:=zBA a0 x3_2;replace p13:=kAs p13;replace q13:=kAs q13;go_wp2_with (first | ((with_reducible refine zAc (f:=115) rfl ?_);refine zAQ (some 31) rfl rfl Tryz.func115 kCX rfl #[.int .u8 (bt a0 x3_2)] rfl kD4 ?_;(with_reducible refine (metewandref13_small.calls (bt a0 x3_2) false _ A14.out).mono ?_);rintro e w' ⟨rfl,⟨nd,rfl⟩⟩;refine⟨_,rfl,?_⟩;have p16:0≤(x3_2:Int):=kA8 kD1;have q16:x3_2<(a0.size:Int):=kA8 kD1;have hx16:=zBA a0 x3_2;replace p16:=kAs p16;replace q16:=kAs q16) | (go_at_call 117;(with_reducible refine (metewandref13_digit.calls (bt a0 x3_2) false _ A17.out).mono ?_);rintro e w' ⟨rfl,⟨nd,rfl⟩⟩));go_ret;exact⟨kD8,by repeat (first | exact Drawn0.refl _ | apply Drawn0.step)⟩
       ·rw[kAa c12] at H;exact absurd H kCY
      ·rw[kAa c11] at H;have c11b0:decide (x3_2<(a0.size:Int))=false:=kA6 c11;clear c11;obtain rfl:=kAc H;go_wp2;go_ret;exact⟨kD8,by repeat (first | exact Drawn0.refl _ | apply Drawn0.step)⟩
def metewandref13_large.f (a0:Int):Option (Bool):=if a0≥65 then (some (decide (a0≤90))) else (some false)
theorem metewandref13_large.calls (a0:Int) (r:Bool) (w:World) (h:metewandref13_large.f a0=some r) :
  Calls Tryz.prog 126 #[.int .u8 a0] w fun e w'=>e=.returned (.bool r)∧Drawn0 w w':=by
 have H:(if a0≥65 then (some (decide (a0≤90))) else (some false))=some r:=h;clear h;by_cases c2:a0≥65
 ·rw[kAb c2] at H;have c2b0:decide (65≤a0)=true:=kA5 c2;clear c2;obtain rfl:=kAc H;go_enter Tryz.func126,Tryz.ntmps126;go_wp2;go_ret;exact⟨kD8,by repeat (first | exact Drawn0.refl _ | apply Drawn0.step)⟩
 ·rw[kAa c2] at H;have c2b0:decide (65≤a0)=false:=kA6 c2;clear c2;obtain rfl:=kAc H;go_enter Tryz.func126,Tryz.ntmps126;go_wp2;go_ret;exact⟨kD8,by repeat (first | exact Drawn0.refl _ | apply Drawn0.step)⟩
mutual
def metewandref13_unit.j0:Nat→ByteArray→Bool→Option (Bool)
 | 0,_,_=>none
 | k+1,x0,x11=>if x11=true then (some false) else (metewandref13_unit.l0 k x0 0)
def metewandref13_unit.l0:Nat→ByteArray→Int→Option (Bool)
 | 0,_,_=>none
 | k+1,x0,x3=>if x3<(x0.size:Int) then (if 0≤x3 then (if (bt x0 x3)<32 then (some false) else (if (bt x0 x3) > 126 then (some false) else (if (bt x0 x3)=123 then (some false) else (if (bt x0 x3)=125 then (some false) else (metewandref13_unit.l0 k x0 (wrap64 (x3+1))))))) else (none)) else (some true)
end
def metewandref13_unit.f (k:Nat) (a0:ByteArray):Option (Bool):=if (a0.size:Int)=0 then (metewandref13_unit.j0 k a0 true) else (metewandref13_unit.j0 k a0 (decide ((a0.size:Int) > 20)))
theorem metewandref13_unit.calls (k:Nat) (a0:ByteArray) (r:Bool) (w:World) (h:metewandref13_unit.f k a0=some r) :
  Calls Tryz.prog 127 #[.string a0] w fun e w'=>e=.returned (.bool r)∧Drawn0 w w':=by
 have H:(if (a0.size:Int)=0 then (metewandref13_unit.j0 k a0 true) else (metewandref13_unit.j0 k a0 (decide ((a0.size:Int) > 20))))=some r:=h;clear h;have HC2:=Aside0.mk H;clear H;go_enter Tryz.func127,Tryz.ntmps127;go_upto_region 1 with (fail);go_cut [11] (fun v11 wc=>∃(kq:Nat) (x11_1:Bool),v11=.bool x11_1∧Aside0 (metewandref13_unit.j0 kq a0 x11_1=some r)∧Aside0 (kq≤k)∧Drawn0 w wc)
 case first =>
  have H:=HC2.out;clear HC2;by_cases c3:(a0.size:Int)=0
  ·rw[kAb c3] at H;have c3b0:((a0.size:Int)==0)=true:=beq_iff_eq.mpr c3;have c3b1:((a0.size:Int) != 0)=false:=bne_eq_false_iff_eq.mpr c3;clear c3
   (first | rw[c3b0] | (simp only[zAg,zAh];rw[c3b0]) | skip)
   have H':=Aside0.mk H;clear H;go_wp2
   go_meet
   case rel=>exact⟨_,(true),kD8,H',⟨by first | omega | exact kA2 _⟩,by repeat (first | exact Drawn0.refl _ | apply Drawn0.step)⟩
  ·rw[kAa c3] at H;have c3b0:((a0.size:Int)==0)=false:=beq_eq_false_iff_ne.mpr c3;have c3b1:((a0.size:Int) != 0)=true:=bne_iff_ne.mpr c3
   (first | rw[c3b0] | (simp only[zAg,zAh];rw[c3b0]) | skip)
   have H':=Aside0.mk H;clear H;go_wp2
   go_meet
   case rel=>exact⟨_,(decide ((a0.size:Int) > 20)),kD8,H',⟨by first | omega | exact kA2 _⟩,by repeat (first | exact Drawn0.refl _ | apply Drawn0.step)⟩
 case rest =>
  clear HC2
  try clear c1
  try clear p2
  try clear c3
  try clear c3b0
  try clear c3b1
  obtain⟨kq,x11_1,rfl,HA,HJ1,⟨mc1,rfl⟩⟩:=hcut
  cases kq with
  | zero=>exact absurd HA.out (by simp[metewandref13_unit.j0])
  | succ kj1 =>
   have H:=HA.out;clear HA;simp only[metewandref13_unit.j0] at H;by_cases c4:x11_1=true
   ·subst c4;have H1:(some false)=some r:=by rw[kAb rfl] at H;exact H
    clear H;have H:=H1;clear H1;obtain rfl:=kAc H;go_wp2;go_ret;exact⟨kD8,by repeat (first | exact Drawn0.refl _ | apply Drawn0.step)⟩
   ·replace c4:=Bool.eq_false_iff.mpr c4;subst c4;have H1:(metewandref13_unit.l0 kj1 a0 0)=some r:=by rw[kAa (show ¬(false=true) by decide)] at H;exact H
    clear H;have H:=H1;clear H1;have H':=Aside0.mk H;clear H;go_wp2;go_loopg [3] kj1 (fun kq v3 w'=>∃(x3_2:Int),v3=.int .i64 x3_2∧Aside0 (metewandref13_unit.l0 kq a0 x3_2=some r)∧Aside0 (kq≤kj1)∧Drawn0 w w')
    case atStart=>exact⟨(0),kD8,H',⟨kA2 _⟩,by repeat (first | exact Drawn0.refl _ | apply Drawn0.step)⟩
    case round =>
     clear H'
     try clear c1
     try clear p2
     try clear c3
     try clear c3b0
     try clear c3b1
     try clear c4
     try clear p2
     obtain⟨x3_2,rfl,HA,HK2,⟨m2,rfl⟩⟩:=hrel
     cases gk with
     | zero=>exact absurd HA.out (by simp[metewandref13_unit.l0])
     | succ k2 =>
      have H:=HA.out;clear HA;simp only[metewandref13_unit.l0] at H;by_cases c5:x3_2<(a0.size:Int)
      ·rw[kAb c5] at H;have c5b0:decide (x3_2<(a0.size:Int))=true:=kA5 c5;clear c5;by_cases c6:0≤x3_2
       ·rw[kAb c6] at H;have c6b0:decide (0≤x3_2)=true:=kA5 c6;clear c6;by_cases c8:(bt a0 x3_2)<32
        ·rw[kAb c8] at H;have c8b0:decide ((bt a0 x3_2)<32)=true:=kA5 c8;clear c8;obtain rfl:=kAc H;have p7:0≤(x3_2:Int):=kA8 kD1;have q7:x3_2<(a0.size:Int):=kA8 kD1;have hx7:=zBA a0 x3_2;replace p7:=kAs p7;replace q7:=kAs q7;go_wp2;go_ret;exact⟨kD8,by repeat (first | exact Drawn0.refl _ | apply Drawn0.step)⟩
        ·rw[kAa c8] at H;have c8b0:decide ((bt a0 x3_2)<32)=false:=kA6 c8;clear c8;by_cases c10:(bt a0 x3_2) > 126
         ·rw[kAb c10] at H;have c10b0:decide (126<(bt a0 x3_2))=true:=kA5 c10;clear c10;obtain rfl:=kAc H;have p7:0≤(x3_2:Int):=kA8 kD1;have q7:x3_2<(a0.size:Int):=kA8 kD1;have hx7:=zBA a0 x3_2;replace p7:=kAs p7;replace q7:=kAs q7;have p9:0≤(x3_2:Int):=kA8 kD1;have q9:x3_2<(a0.size:Int):=kA8 kD1;have hx9:=zBA a0 x3_2;replace p9:=kAs p9;replace q9:=kAs q9;go_wp2;go_ret;exact⟨kD8,by repeat (first | exact Drawn0.refl _ | apply Drawn0.step)⟩
         ·rw[kAa c10] at H;have c10b0:decide (126<(bt a0 x3_2))=false:=kA6 c10;clear c10;by_cases c12:(bt a0 x3_2)=123
          ·rw[kAb c12] at H;have c12b0:((bt a0 x3_2)==123)=true:=beq_iff_eq.mpr c12;have c12b1:((bt a0 x3_2) != 123)=false:=bne_eq_false_iff_eq.mpr c12;clear c12;obtain rfl:=kAc H;have p7:0≤(x3_2:Int):=kA8 kD1;have q7:x3_2<(a0.size:Int):=kA8 kD1;have hx7:=zBA a0 x3_2;replace p7:=kAs p7;replace q7:=kAs q7;have p9:0≤(x3_2:Int):=kA8 kD1;have q9:x3_2<(a0.size:Int):=kA8 kD1;have hx9:=zBA a0 x3_2;replace p9:=kAs p9;replace q9:=kAs q9;have p11:0≤(x3_2:Int):=kA8 kD1;have q11:x3_2<(a0.size:Int):=kA8 kD1;have hx11:=zBA a0 x3_2;replace p11:=kAs p11;replace q11:=kAs q11;go_wp2;go_ret;exact⟨kD8,by repeat (first | exact Drawn0.refl _ | apply Drawn0.step)⟩
          ·rw[kAa c12] at H;have c12b0:((bt a0 x3_2)==123)=false:=beq_eq_false_iff_ne.mpr c12;have c12b1:((bt a0 x3_2) != 123)=true:=bne_iff_ne.mpr c12;by_cases c14:(bt a0 x3_2)=125
           ·rw[kAb c14] at H;have c14b0:((bt a0 x3_2)==125)=true:=beq_iff_eq.mpr c14;have c14b1:((bt a0 x3_2) != 125)=false:=bne_eq_false_iff_eq.mpr c14;clear c14;obtain rfl:=kAc H;have p7:0≤(x3_2:Int):=kA8 kD1;have q7:x3_2<(a0.size:Int):=kA8 kD1;have hx7:=zBA a0 x3_2;replace p7:=kAs p7;replace q7:=kAs q7;have p9:0≤(x3_2:Int):=kA8 kD1;have q9:x3_2<(a0.size:Int):=kA8 kD1;have hx9:=zBA a0 x3_2;replace p9:=kAs p9;replace q9:=kAs q9;have p11:0≤(x3_2:Int):=kA8 kD1;have q11:x3_2<(a0.size:Int):=kA8 kD1;have hx11:=zBA a0 x3_2;replace p11:=kAs p11;replace q11:=kAs q11;have p13:0≤(x3_2:Int):=kA8 kD1;have q13:x3_2<(a0.size:Int):=kA8 kD1;have hx13:=zBA a0 x3_2;replace p13:=kAs p13;replace q13:=kAs q13;go_wp2;go_ret;exact⟨kD8,by repeat (first | exact Drawn0.refl _ | apply Drawn0.step)⟩
           ·rw[kAa c14] at H;have c14b0:((bt a0 x3_2)==125)=false:=beq_eq_false_iff_ne.mpr c14;have c14b1:((bt a0 x3_2) != 125)=true:=bne_iff_ne.mpr c14;have H':=Aside0.mk H;clear H;have p7:0≤(x3_2:Int):=kA8 kD1;have q7:x3_2<(a0.size:Int):=kA8 kD1;have hx7:=zBA a0 x3_2;replace p7:=kAs p7;replace q7:=kAs q7;have p9:0≤(x3_2:Int):=kA8 kD1;have q9:x3_2<(a0.size:Int):=kA8 kD1;have hx9:=zBA a0 x3_2;replace p9:=kAs p9;replace q9:=kAs q9;have p11:0≤(x3_2:Int):=kA8 kD1;have q11:x3_2<(a0.size:Int):=kA8 kD1;have hx11:=zBA a0 x3_2;replace p11:=kAs p11;replace q11:=kAs q11;have p13:0≤(x3_2:Int):=kA8 kD1;have q13:x3_2<(a0.size:Int):=kA8 kD1;have hx13:=zBA a0 x3_2;replace p13:=kAs p13;replace q13:=kAs q13;go_wp2;go_roundg k2
            case measure=>have:=HJ1.out;have:=HK2.out;omega
            case rel=>exact⟨(wrap64 (x3_2+1)),kD8,H',⟨by have:=HJ1.out;have:=HK2.out;omega⟩,by repeat (first | exact Drawn0.refl _ | apply Drawn0.step)⟩
       ·rw[kAa c6] at H;exact absurd H kCY
      ·rw[kAa c5] at H;have c5b0:decide (x3_2<(a0.size:Int))=false:=kA6 c5;clear c5;obtain rfl:=kAc H;go_wp2;go_ret;exact⟨kD8,by repeat (first | exact Drawn0.refl _ | apply Drawn0.step)⟩
def metewandref13_sign.l0:Nat→Int→Int→Option (Bool)
 | 0,_,_=>none
 | k+1,x0,x3=>if x3<14 then (if 0≤x3 then (if (bt (⟨#[40,41,91,93,44,43,45,42,47,94,60,61,46,124]⟩:ByteArray) x3)=x0 then (some true) else (metewandref13_sign.l0 k x0 (wrap64 (x3+1)))) else (none)) else (some false)
def metewandref13_sign.f (k:Nat) (a0:Int):Option (Bool):=metewandref13_sign.l0 k a0 0
theorem metewandref13_sign.calls (k:Nat) (a0:Int) (r:Bool) (w:World) (h:metewandref13_sign.f k a0=some r) :
  Calls Tryz.prog 128 #[.int .u8 a0] w fun e w'=>e=.returned (.bool r)∧Drawn0 w w':=by
 have H:(metewandref13_sign.l0 k a0 0)=some r:=h;clear h;have H':=Aside0.mk H;clear H;go_enter Tryz.func128,Tryz.ntmps128;go_wp2;go_loopg [3] k (fun kq v3 w'=>∃(x3_1:Int),v3=.int .i64 x3_1∧Aside0 (metewandref13_sign.l0 kq a0 x3_1=some r)∧Aside0 (kq≤k)∧Drawn0 w w')
 case atStart=>exact⟨(0),kD8,H',⟨kA2 _⟩,by repeat (first | exact Drawn0.refl _ | apply Drawn0.step)⟩
 case round =>
  clear H'
  try clear c1
  obtain⟨x3_1,rfl,HA,HK1,⟨m1,rfl⟩⟩:=hrel
  cases gk with
  | zero=>exact absurd HA.out (by simp[metewandref13_sign.l0])
  | succ k1 =>
   have H:=HA.out;clear HA;simp only[metewandref13_sign.l0] at H;by_cases c2:x3_1<14
   ·rw[kAb c2] at H;have c2b0:decide (x3_1<14)=true:=kA5 c2;clear c2;by_cases c3:0≤x3_1
    ·rw[kAb c3] at H;have c3b0:decide (0≤x3_1)=true:=kA5 c3;clear c3;by_cases c5:(bt (⟨#[40,41,91,93,44,43,45,42,47,94,60,61,46,124]⟩:ByteArray) x3_1)=a0
     ·rw[kAb c5] at H;have c5b0:((bt (⟨#[40,41,91,93,44,43,45,42,47,94,60,61,46,124]⟩:ByteArray) x3_1)==a0)=true:=beq_iff_eq.mpr c5;have c5b1:((bt (⟨#[40,41,91,93,44,43,45,42,47,94,60,61,46,124]⟩:ByteArray) x3_1) != a0)=false:=bne_eq_false_iff_eq.mpr c5;clear c5;obtain rfl:=kAc H;have p4:0≤(x3_1:Int):=kA8 kD1;have q4:x3_1<(14:Int):=kA8 kD1;have hx4:=zBA (⟨#[40,41,91,93,44,43,45,42,47,94,60,61,46,124]⟩:ByteArray) x3_1;replace p4:=kAs p4;replace q4:=kAs q4;go_wp2;go_ret;exact⟨kD8,by repeat (first | exact Drawn0.refl _ | apply Drawn0.step)⟩
     ·rw[kAa c5] at H;have c5b0:((bt (⟨#[40,41,91,93,44,43,45,42,47,94,60,61,46,124]⟩:ByteArray) x3_1)==a0)=false:=beq_eq_false_iff_ne.mpr c5;have c5b1:((bt (⟨#[40,41,91,93,44,43,45,42,47,94,60,61,46,124]⟩:ByteArray) x3_1) != a0)=true:=bne_iff_ne.mpr c5;have H':=Aside0.mk H;clear H;have p4:0≤(x3_1:Int):=kA8 kD1;have q4:x3_1<(14:Int):=kA8 kD1;have hx4:=zBA (⟨#[40,41,91,93,44,43,45,42,47,94,60,61,46,124]⟩:ByteArray) x3_1;replace p4:=kAs p4;replace q4:=kAs q4;go_wp2;go_roundg k1
      case measure=>have:=HK1.out;omega
      case rel=>exact⟨(wrap64 (x3_1+1)),kD8,H',⟨by have:=HK1.out;omega⟩,by repeat (first | exact Drawn0.refl _ | apply Drawn0.step)⟩
    ·rw[kAa c3] at H;exact absurd H kCY
   ·rw[kAa c2] at H;have c2b0:decide (x3_1<14)=false:=kA6 c2;clear c2;obtain rfl:=kAc H;go_wp2;go_ret;exact⟨kD8,by repeat (first | exact Drawn0.refl _ | apply Drawn0.step)⟩
end
end Go.Proofs.YtjaobihcdkjmbaaGreatDoor.PReadTokens
end
