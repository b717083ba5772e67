/- The law ReadPlace answers true for every argument; a part of its proof. -/
import Derived.Test.YtjaobihcdkjmbaaGreatDoorCa
import Derived.Test.YtjaobihcdkjmbaaGreatDoorCb
import Derived.Test.YtjaobihcdkjmbaaGreatDoorC0
import Derived.Test.YtjaobihcdkjmbaaGreatDoorC7
import Derived.Test.YtjaobihcdkjmbaaGreatDoorC12
import Derived.Test.YtjaobihcdkjmbaaGreatDoorC16
import Derived.Test.YtjaobihcdkjmbaaGreatDoorC17
set_option linter.unusedVariables false
set_option linter.unusedSimpArgs false
namespace Go.Proofs.YtjaobihcdkjmbaaGreatDoor.PReadTokens
end Go.Proofs.YtjaobihcdkjmbaaGreatDoor.PReadTokens
namespace Go.Proofs.YtjaobihcdkjmbaaGreatDoorW.PrintWords
end Go.Proofs.YtjaobihcdkjmbaaGreatDoorW.PrintWords
set_option maxRecDepth 100000
set_option maxHeartbeats 2000000
section
namespace Go.Proofs.YtjaobihcdkjmbaaGreatDoor
open Go.RowKit Go.Proofs.YtjaobihcdkjmbaaGreatDoorW.PrintWords Go.Proofs.YtjaobihcdkjmbaaGreatDoor.PReadTokens
def ofR (n:Int):ByteArray:=(metewandref01_OfInt.f 5 n).getD ⟨#[]⟩
theorem ofR_all:((List.range 109).all fun i=>(metewandref01_OfInt.f 5 ((i:Int)-9)).isSome&&decide ((ofR ((i:Int)-9)).size≤2))=true:=kCX
theorem ofR_at (n:Int) (h0:-9≤n) (h1:n≤99):(metewandref01_OfInt.f 5 n).isSome=true∧(ofR n).size≤2:=by
 have:=kCb.1 ofR_all (n+9).toNat (List.mem_range.2 kCW);rw[show ((((n+9).toNat:Nat):Int)-9)=n by omega,kAx,kB6] at this;exact this
theorem zEE (n:Int) (h0:-9≤n) (h1:n≤99):(ofR n).size≤2:=(ofR_at n h0 h1).2
theorem zEl (n:Int) (h0:-9≤n) (h1:n≤99) (w:World):Calls Tryz.prog 84 #[.int .i64 n] w fun e w'=>e=.returned (.string (ofR n))∧Below w.heap.size w w':=by
 obtain⟨r,h⟩:=kC5.1 (ofR_at n h0 h1).1;have e:ofR n=r:=by unfold ofR;rw[h];rfl
 rw[e];exact metewandref01_OfInt.calls 5 n r w h
def levR (op:Int):Int:=if op=13 then 0 else if op=12 then 0 else if op=10 then 0 else if op=11 then 0 else if op=2 then 1 else if op=3 then 1 else if op=4 then 1 else if op=5 then 2 else if op=6 then 2 else if op=7 then 3 else 4
theorem levR_f (op:Int) (a b c:ByteArray) (d:Int) (l:List S31):metewandref13_level.f 20 op a b c d l=some (levR op):=by
 unfold metewandref13_level.f levR;simp only[metewandref13_level.j0,metewandref13_level.j1,metewandref13_level.j2];by_cases h13:op=13
 ·simp[h13]
 by_cases h12:op=12
 ·simp[h12]
 by_cases h10:op=10
 ·simp[h10]
 by_cases h11:op=11
 ·simp[h11]
 by_cases h2:op=2
 ·simp[h2]
 by_cases h3:op=3
 ·simp[h3]
 by_cases h4:op=4
 ·simp[h4]
 by_cases h5:op=5
 ·simp[h5]
 by_cases h6:op=6
 ·simp[h6]
 by_cases h7:op=7
 ·simp[h7]
 simp[h13,h12,h10,h11,h2,h3,h4,h5,h6,h7]
def zEB (lv want:Int) (t:ByteArray):ByteArray:=if lv<want then ⟨#[40]⟩++t++⟨#[41]⟩ else t
def argR (ts:List (Int×ByteArray)) (i:Nat) (want:Int):ByteArray:=zEB (ts.getD i (0,⟨#[]⟩)).1 want (ts.getD i (0,⟨#[]⟩)).2
def zBX:List ByteArray→ByteArray
 | []=>⟨#[]⟩
 | t :: ts=>ts.foldl (fun a u=>a++⟨#[44,32]⟩++u) t
theorem ByteArray.empty_app (t:ByteArray):(⟨#[]⟩:ByteArray)++t=t:=by apply kC0;simp[kCL]
theorem joinR_snoc (l:List ByteArray) (t:ByteArray) (h:l≠[]):zBX (l++[t])=zBX l++⟨#[44,32]⟩++t:=by
 cases l with
 | nil=>exact absurd rfl h
 | cons a l=>simp[zBX,List.foldl_append]
def litN (num:S28):ByteArray:=if num.f1.toList == [49] then num.f0 else num.f0++⟨#[124]⟩++num.f1
def litR (num:S28) (name:ByteArray):ByteArray:=if name.toList == [] then litN num else litN num++⟨#[123]⟩++name++⟨#[125]⟩
def openRO (op:Int) (num:S28) (name:ByteArray) (size:Int) (ts:List (Int×ByteArray)):ByteArray :=
 if op=0 then litR num name else
 if op=1 then name else
 if op=2 then ⟨#[45]⟩++argR ts 0 2 else
 if op=3 then argR ts 0 1++⟨#[32,43,32]⟩++argR ts 1 2 else
 if op=4 then argR ts 0 1++⟨#[32,45,32]⟩++argR ts 1 2 else
 if op=5 then argR ts 0 2++⟨#[32,42,32]⟩++argR ts 1 3 else
 if op=6 then argR ts 0 2++⟨#[32,47,32]⟩++argR ts 1 3 else
 if op=7 then argR ts 0 4++⟨#[94]⟩++(ofR size) else
 if op=9 then argR ts 0 4++⟨#[91]⟩++argR ts 1 0++⟨#[93]⟩ else
 if op=10 then ⟨#[116,97,98,32]⟩++name++⟨#[32,60,32]⟩++(ofR size)++⟨#[32,46,32]⟩++argR ts 0 0 else
 if op=11 then ⟨#[115,117,109,32]⟩++name++⟨#[32,60,32]⟩++(ofR size)++⟨#[32,46,32]⟩++argR ts 0 0 else
 if op=12 then ⟨#[105,102,32]⟩++argR ts 0 1++⟨#[32,60,32]⟩++argR ts 1 1++⟨#[32,116,104,101,110,32]⟩++argR ts 2 0++⟨#[32,101,108,115,101,32]⟩++argR ts 3 0 else
 if op=13 then ⟨#[108,101,116,32]⟩++name++⟨#[32,61,32]⟩++argR ts 0 0++⟨#[32,105,110,32]⟩++argR ts 1 0 else
 if op=8 then ⟨#[91]⟩++zBX (ts.map fun p=>zEB p.1 0 p.2)++⟨#[93]⟩ else
 name++⟨#[40]⟩++zBX (ts.map fun p=>zEB p.1 0 p.2)++⟨#[41]⟩
mutual
def zCd:S31→ByteArray
 | ⟨op,num,name,size,l⟩=>openRO op num name size (argsR l)
def argsR:List S31→List (Int×ByteArray)
 | []=>[]
 | x :: l=>(levR x.f0,zCd x) :: argsR l
end
def zAj (x:S31) (want:Int):ByteArray:=zEB (levR x.f0) want (zCd x)
theorem zDS:∀l:List S31,(argsR l).map (fun p=>zEB p.1 0 p.2)=l.map (fun y=>zAj y 0)
 | []=>rfl
 | x :: l=>by
  unfold argsR;rw[kAo,kAo,zDS l];rfl
theorem zEZ (x:S31) (want:Int):(zAj x want).size≤(zCd x).size+2:=by
 unfold zAj zEB;split
 ·rw[kBj,kBj];show 1+(zCd x).size+1≤_;omega
 ·omega
theorem rtext_of (x:S31) (hsz:(zCd x).size≤1000000) (hop:∀v w,Vw w x v→Calls Tryz.prog 46 #[v] w fun e w'=>e=.returned (.string (zCd x))∧Below w.heap.size w w') (want:Int) (v:Value) (w:World) (hv:Vw w x v) :
  Calls Tryz.prog 83 #[v,.int .i64 want] w fun e w'=>e=.returned (.string (zAj x want))∧Below w.heap.size w w':=by
 obtain⟨A,c,rfl,hc1,hc2⟩:=hv.out;have hb:=(kA3 w.heap.size w).alloc (kA2 _) (.cells #[.int .i64 x.f0,.string x.f1.f0,.string x.f1.f1,.string x.f2,.int .i64 x.f3,.slice A x.f4.length c] 31);have hbl:=zA4 w (.cells #[.int .i64 x.f0,.string x.f1.f0,.string x.f1.f1,.string x.f2,.int .i64 x.f3,.slice A x.f4.length c] 31);have HL:=kA1 (metewandref13_level.calls 20 x.f0 x.f1.f0 x.f1.f1 x.f2 x.f3 A c x.f4 (levR x.f0) _ (Kd.C_below hc2 hb) hc1 (levR_f _ _ _ _ _ _));have HO:=kA1 hop;have HV:=kA1 hv;have HT:Hid (zAj x want=zEB (levR x.f0) want (zCd x)):=kA1 rfl;generalize zAj x want=R at *;generalize zCd x=r at *;generalize levR x.f0=lv at *;unfold exV at *;clear hop hv hc2;go_enter Tryz.func83,Tryz.ntmps83;go_wp2_with fail;refine HL.out.mono ?_;rintro e w1 ⟨rfl,hb1⟩;have hx:=zAb hb1 hbl;obtain⟨⟨p0,p1,p2,p3,p4,p5⟩,_,xl⟩:=zA9 hx;have hw1:=hb.trans (hb1.mono hb.size);clear hb hb1 hbl HL
 cases hl:decide (lv<want)
 ·go_wp2_with fail;refine (HO.out _ _ (HV.out.below hw1)).mono ?_;rintro e w2 ⟨rfl,hb2⟩;go_wp2;go_ret;exact⟨by rw[HT.out];unfold zEB;rw[kAa (kBr hl)];rfl,hw1.trans (hb2.mono hw1.size)⟩
 ·go_wp2_with fail;refine (HO.out _ _ (HV.out.below hw1)).mono ?_;rintro e w2 ⟨rfl,hb2⟩;go_wp2;go_ret;exact⟨by rw[HT.out];unfold zEB;rw[kAb (kA8 hl)];rfl,hw1.trans (hb2.mono hw1.size)⟩
theorem rtexts_of (l:List S31) (hl:l.length≤1000000) (hsz:∀j,j≤l.length→(zBX ((l.take j).map fun y=>zAj y 0)).size≤1000000) (hs1:∀j (h:j<l.length),(zAj l[j] 0).size≤1000000)
  (hrec:∀j (h:j<l.length) v w,Vw w l[j] v→Calls Tryz.prog 83 #[v,.int .i64 0] w fun e w'=>e=.returned (.string (zAj l[j] 0))∧Below w.heap.size w w') (A:Option Addr) (c:Nat) (w:World) (hc:k31.C w A l.length l) :
  Calls Tryz.prog 85 #[.slice A l.length c] w fun e w'=>e=.returned (.string (zBX (l.map fun y=>zAj y 0)))∧Below w.heap.size w w':=by
 have hjs:∀j (hj:j<l.length),0<j→zBX ((l.take (j+1)).map fun y=>zAj y 0)=zBX ((l.take j).map fun y=>zAj y 0)++⟨#[44,32]⟩++zAj l[j] 0:=fun j hj h0=>by
  rw[zCK l j hj,List.map_append,List.map_singleton,joinR_snoc _ _ (by
   intro e;have:=congrArg List.length e;rw[List.length_map,kAe,List.length_nil] at this;omega)]
 have hj0:∀h:0<l.length,zBX ((l.take 1).map fun y=>zAj y 0)=zAj l[0] 0:=fun hj=>by
  rw[zCK l 0 hj];rfl
 have hfin:l.take l.length=l:=kB5;have HC:=kA1 hc;have HJ:=kA1 hjs;have HJ0:=kA1 hj0;have HF:=kA1 hfin;have HS:=kA1 hsz;have HS1:=kA1 hs1;have HR:=kA1 hrec;clear hc hjs hj0 hfin hsz hs1 hrec;go_enter Tryz.func85,Tryz.ntmps85;go_wp2;go_loopg [3,4] l.length (fun k v3 v4 wr=>∃j:Nat,j+k=l.length∧v4=.int .i64 j∧v3=.string (zBX ((l.take j).map fun y=>zAj y 0))∧Below w.heap.size w wr)
 case atStart=>exact⟨0,kCW,rfl,rfl,kA3 _ _⟩
 case round =>
  obtain⟨j,hj,rfl,rfl,hb⟩:=hrel;by_cases hjl:j<l.length
  ·obtain⟨ad,A5,c5,rfl,q0,q1,q2,q3,q4,q5,hvw⟩:=zAs (Kd.C_below HC.out hb) j hjl;have hr:=HR.out j hjl;have hs2:=HS.out j kCW;have hs3:=HS1.out j hjl;have hn:=HJ.out j hjl;have h00:j=0→zBX ((l.take (j+1)).map fun y=>zAj y 0)=zAj l[j] 0:=fun e=>by
    subst e;exact HJ0.out hjl
   have HN:=kA1 hn;have H00:=kA1 h00;clear hn h00;have HZ:Hid (j=0→zBX ((l.take j).map fun y=>zAj y 0)=⟨#[]⟩):=kA1 (fun e=>by subst e;rfl);generalize zBX ((l.take j).map fun y=>zAj y 0)=r0 at *;generalize l[j]=y at *;generalize zAj y 0=t at *;have HV:=kA1 hvw;have HR2:=kA1 hr;clear hvw hr;by_cases h0:j=0
   ·have hd:decide (0<j)=false:=kA6 kCW;obtain rfl:=HZ.out h0;have E1:=kA1 (H00.out h0);clear h0;go_wp2_with fail;refine (HR2.out _ _ HV.out).mono ?_;rintro e w1 ⟨rfl,hb1⟩;have hb2:=hb.trans (hb1.mono hb.size);go_wp2;go_roundg (gk-1)
    case measure=>omega
    case rel=>exact⟨j+1,kCW,by go_num,by rw[E1.out,ByteArray.empty_app],hb2⟩
   ·have hd:decide (0<j)=true:=kA5 kCW;have hd2:0<j:=kCW
    have e1:=HN.out kCW;have E1:=kA1 e1;clear e1;go_wp2_with fail;refine (HR2.out _ _ HV.out).mono ?_;rintro e w1 ⟨rfl,hb1⟩;have hb2:=hb.trans (hb1.mono hb.size);go_wp2;go_roundg (gk-1)
    case measure=>omega
    case rel=>exact⟨j+1,kCW,by go_num,by rw[E1.out],hb2⟩
  ·obtain rfl:j=l.length:=kCW
   go_wp2;go_ret;exact⟨by rw[HF.out];rfl,hb⟩
end Go.Proofs.YtjaobihcdkjmbaaGreatDoor
end
