/- The law ReadPlace answers true for every argument; a part of its proof. -/
import Derived.Test.YtjaobihcdkjmbaaGreatDoorCa
import Derived.Test.YtjaobihcdkjmbaaGreatDoorCb
import Derived.Test.YtjaobihcdkjmbaaGreatDoorTie
import Derived.Test.YtjaobihcdkjmbaaGreatDoorCards
import Derived.Test.YtjaobihcdkjmbaaGreatDoorC0
import Derived.Test.YtjaobihcdkjmbaaGreatDoorC6
import Derived.Test.YtjaobihcdkjmbaaGreatDoorC7
import Derived.Test.YtjaobihcdkjmbaaGreatDoorC8
import Derived.Test.YtjaobihcdkjmbaaGreatDoorC9
import Derived.Test.YtjaobihcdkjmbaaGreatDoorC12
import Derived.Test.YtjaobihcdkjmbaaGreatDoorC16
import Derived.Test.YtjaobihcdkjmbaaGreatDoorC17
import Derived.Test.YtjaobihcdkjmbaaGreatDoorC20
import Derived.Test.YtjaobihcdkjmbaaGreatDoorC22
import Derived.Test.YtjaobihcdkjmbaaGreatDoorC24
import Derived.Test.YtjaobihcdkjmbaaGreatDoorC27
import Derived.Test.YtjaobihcdkjmbaaGreatDoorC36
import Derived.Test.YtjaobihcdkjmbaaGreatDoorC41
import Derived.Test.YtjaobihcdkjmbaaGreatDoorC43
import Derived.Test.YtjaobihcdkjmbaaGreatDoorC44
import Derived.Test.YtjaobihcdkjmbaaGreatDoorC45
set_option linter.unusedVariables false
set_option linter.unusedSimpArgs false
namespace Go.Proofs.YtjaobihcdkjmbaaGreatDoor.PReadTokens
end Go.Proofs.YtjaobihcdkjmbaaGreatDoor.PReadTokens
namespace Go.Proofs.YtjaobihcdkjmbaaGreatDoorW.PrintWords
end Go.Proofs.YtjaobihcdkjmbaaGreatDoorW.PrintWords
set_option maxRecDepth 100000
set_option maxHeartbeats 1000000
section
namespace Go.Proofs.YtjaobihcdkjmbaaGreatDoor
open Go.RowKit Go.Proofs.YtjaobihcdkjmbaaGreatDoorW.PrintWords Go.Proofs.YtjaobihcdkjmbaaGreatDoor.PReadTokens
def zE6:Nat→Nat
 | 0=>20
 | n+1=>100+4*zE6 n
theorem zCO {s:ByteArray} (h:s∈nameL):s.size≤2:=by
 simp only[nameL,kAU,kBD,kCQ] at h;rcases h with rfl | rfl | rfl | rfl | rfl<;>decide
theorem callL_size {s:ByteArray} (h:s∈callL):s.size≤2:=by
 simp only[callL,kAU,kBD,kCQ] at h;rcases h with rfl | rfl | rfl<;>decide
theorem unitL_size {s:ByteArray} (h:s∈unitL):s.size≤6:=by
 simp only[unitL,kAU,kBD,kCQ] at h;rcases h with rfl | rfl | rfl | rfl | rfl<;>decide
theorem ratS_size {p q:Int} (h0:0≤p) (h1:p≤20) (h2:1≤q) (h3:q≤6):(ratS p q).f0.size≤2∧(ratS p q).f1.size≤2:=by
 have hg:0≤(Int.gcd p q:Int):=Int.natCast_nonneg _;have a:=kCN (Int.gcd p q:Int) h0;have b:=kCN (Int.gcd p q:Int) (show 0≤q by omega);have a0:=kBU h0 hg;have b0:=kBU (show 0≤q by omega) hg;exact⟨(dec_some _ a0 kCW).2,(dec_some _ b0 kCW).2⟩
theorem joinR_size (B:Nat):∀l:List ByteArray,(∀t∈l,t.size≤B)→(zBX l).size≤l.length*(B+2)
 | [],_=>by show 0≤_;omega
 | t :: ts,h=>by
  have key:∀(ts:List ByteArray) (a:ByteArray),(∀t∈ts,t.size≤B)→(ts.foldl (fun a u=>a++⟨#[44,32]⟩++u) a).size≤a.size+ts.length*(B+2):=by
   intro ts
   induction ts with
   | nil=>intro a _;simp
   | cons u ts ih =>
    intro a h;have h1:=ih (a++⟨#[44,32]⟩++u) (fun t ht=>h t (kB4 _ ht));have h2:=h u kB8;rw[kBj,kBj] at h1;have h3:(⟨#[44,32]⟩:ByteArray).size=2:=rfl;rw[List.foldl_cons,List.length_cons,kCR];omega
  have h1:=key ts t (fun u hu=>h u (kB4 _ hu));have h2:=h t kB8;rw[List.length_cons,kCR];show (ts.foldl (fun a u=>a++⟨#[44,32]⟩++u) t).size≤_;omega
theorem litR_size (num:S28) (name:ByteArray):(litR num name).size≤num.f0.size+num.f1.size+name.size+3:=by
 have h1:(⟨#[124]⟩:ByteArray).size=1:=rfl;have h2:(⟨#[123]⟩:ByteArray).size=1:=rfl;have h3:(⟨#[125]⟩:ByteArray).size=1:=rfl;unfold litR litN
 repeat' split
 all_goals
  (try simp only[kBj,h1,h2,h3])
  omega
theorem zEG (n:Nat) (x:S31) (h:Made n x):(zCd x).size≤zE6 n:=by
 induction h with
 | ref n s h =>
  have:=zCO h;have e:zCd ⟨1,z28,s,0,[]⟩=s:=rfl;rw[e]
  cases n<;>simp only[zE6]<;>omega
 | lit n p q u h0 h1 h2 h3 hu =>
  have a:=unitL_size hu;have b:=ratS_size h0 h1 h2 h3;have c:=litR_size (ratS p q) u;have e:zCd ⟨0,ratS p q,u,0,[]⟩=litR (ratS p q) u:=rfl;rw[e]
  cases n<;>simp only[zE6]<;>omega
 | node n op name size l hk hl ih =>
  have hr:∀y∈l,∀want,(zAj y want).size≤zE6 n+2:=fun y hy want=>kAz (zEZ y want) (by have:=ih y hy;omega)
  have hj:(zBX (l.map fun y=>zAj y 0)).size≤l.length*(zE6 n+2+2):=by
   have:=joinR_size (zE6 n+2) (l.map fun y=>zAj y 0) (fun t ht=>by
    obtain⟨y,hy,rfl⟩:=List.mem_map.1 ht;exact hr y hy 0)
   rwa [List.length_map] at this
  simp only[zE6];rcases hk with⟨rfl,rfl,rfl,hk⟩ | ⟨ho,rfl,rfl,hk⟩ | ⟨rfl,rfl,⟨hs0,hs1⟩,hk⟩ | ⟨rfl,rfl,rfl,hk0,hk1⟩ | ⟨ho,hn,⟨hs0,hs1⟩,hk⟩ | ⟨rfl,rfl,rfl,hk⟩ | ⟨rfl,hn,rfl,hk⟩ | ⟨rfl,hn,rfl,hk⟩
  ·match l,hk with
   | [a],_ =>
    have ha:=hr a kCY 2;have e:zCd ⟨2,z28,eB,0,[a]⟩=⟨#[45]⟩++zAj a 2:=rfl;rw[e];simp only[kAd,ByteArray.size_mk',kAf,List.length_cons,List.length_nil];omega
  ·match l,hk with
   | [a,b],_ =>
    have ha:=fun z=>hr a kCY z
    have hb:=fun z=>hr b kCY z
    have e:∃u v s:ByteArray,∃i j,zCd ⟨op,z28,eB,0,[a,b]⟩=zAj a i++s++zAj b j++u∧s.size≤3∧u.size≤3:=by
     have hz:∀t:ByteArray,t++⟨#[]⟩=t:=fun t=>by apply kC0;simp[kCL]
     rcases ho with rfl | rfl | rfl | rfl | rfl
     ·exact⟨⟨#[]⟩,⟨#[]⟩,⟨#[32,43,32]⟩,1,2,by rw[hz];rfl,kD0,kD0⟩
     ·exact⟨⟨#[]⟩,⟨#[]⟩,⟨#[32,45,32]⟩,1,2,by rw[hz];rfl,kD0,kD0⟩
     ·exact⟨⟨#[]⟩,⟨#[]⟩,⟨#[32,42,32]⟩,2,3,by rw[hz];rfl,kD0,kD0⟩
     ·exact⟨⟨#[]⟩,⟨#[]⟩,⟨#[32,47,32]⟩,2,3,by rw[hz];rfl,kD0,kD0⟩
     ·exact⟨⟨#[93]⟩,⟨#[]⟩,⟨#[91]⟩,4,0,rfl,kD0,kD0⟩
    obtain⟨u,_,s,i,j,e,hs,hu⟩:=e;have:=ha i;have:=hb j;rw[e];simp only[kAd];omega
  ·match l,hk with
   | [a],_ =>
    have ha:=hr a kCY 4;have hz:=zEE size hs0 kCW;have e:zCd ⟨7,z28,eB,size,[a]⟩=zAj a 4++⟨#[94]⟩++ofR size:=rfl;rw[e];simp only[kAd,ByteArray.size_mk',kAf,List.length_cons,List.length_nil];omega
  ·have e:zCd ⟨8,z28,eB,0,l⟩=⟨#[91]⟩++zBX (l.map fun y=>zAj y 0)++⟨#[93]⟩:=by
    rw[← zDS];rfl
   have:=kBg (zE6 n+2+2) (show l.length≤4 by omega);rw[e];simp only[kAd,ByteArray.size_mk',kAf,List.length_cons,List.length_nil];omega
  ·have hn:=zCO hn;have hz:=zEE size kCW kCW
   match l,hk with
   | [a],_ =>
    have ha:=hr a kCY 0;have e:∃u:ByteArray,u.size=4∧zCd ⟨op,z28,name,size,[a]⟩=u++name++⟨#[32,60,32]⟩++(ofR size)++⟨#[32,46,32]⟩++zAj a 0:=by
     rcases ho with rfl | rfl
     ·exact⟨_,rfl,rfl⟩
     ·exact⟨_,rfl,rfl⟩
    obtain⟨u,hu,e⟩:=e;rw[e];simp only[kAd,ByteArray.size_mk',kAf,List.length_cons,List.length_nil];omega
  ·match l,hk with
   | [a,b,c,d],_ =>
    have ha:=hr a kCY 1;have hb:=hr b kCY 1;have hc:=hr c kCY 0;have hd:=hr d kCY 0;have e:zCd ⟨12,z28,eB,0,[a,b,c,d]⟩=⟨#[105,102,32]⟩++zAj a 1++⟨#[32,60,32]⟩++zAj b 1++⟨#[32,116,104,101,110,32]⟩++zAj c 0++⟨#[32,101,108,115,101,32]⟩++zAj d 0:=rfl;rw[e];simp only[kAd,ByteArray.size_mk',kAf,List.length_cons,List.length_nil];omega
  ·have hn:=zCO hn
   match l,hk with
   | [a,b],_ =>
    have ha:=hr a kCY 0;have hb:=hr b kCY 0;have e:zCd ⟨13,z28,name,0,[a,b]⟩=⟨#[108,101,116,32]⟩++name++⟨#[32,61,32]⟩++zAj a 0++⟨#[32,105,110,32]⟩++zAj b 0:=rfl;rw[e];simp only[kAd,ByteArray.size_mk',kAf,List.length_cons,List.length_nil];omega
  ·have hn:=callL_size hn;have e:zCd ⟨14,z28,name,0,l⟩=name++⟨#[40]⟩++zBX (l.map fun y=>zAj y 0)++⟨#[41]⟩:=by
    rw[← zDS];rfl
   have:=kBg (zE6 n+2+2) (show l.length≤4 by omega);rw[e];simp only[kAd,ByteArray.size_mk',kAf,List.length_cons,List.length_nil];omega
theorem zFV {op:Int} {name:ByteArray} {size:Int} {k:Nat} (h:nodeOk op name size k):refKind op size k∧name.size≤2:=by
 rcases h with⟨rfl,rfl,rfl,hk⟩ | ⟨ho,rfl,rfl,hk⟩ | ⟨rfl,rfl,⟨hs0,hs1⟩,hk⟩ | ⟨rfl,rfl,rfl,hk0,hk1⟩ | ⟨ho,hn,⟨hs0,hs1⟩,hk⟩ | ⟨rfl,rfl,rfl,hk⟩ | ⟨rfl,hn,rfl,hk⟩ | ⟨rfl,hn,rfl,hk⟩
 ·exact⟨.inr (.inl ⟨rfl,hk⟩),kD0⟩
 ·exact⟨.inr (.inr (.inl ⟨kCW,hk⟩)),kD0⟩
 ·exact⟨.inr (.inr (.inr (.inl ⟨kCW,hk,kCW,kCW⟩))),kD0⟩
 ·exact⟨.inr (.inr (.inr (.inr (.inr (.inl rfl))))),kD0⟩
 ·exact⟨.inr (.inr (.inr (.inl ⟨kCW,hk,kCW,kCW⟩))),zCO hn⟩
 ·exact⟨.inr (.inr (.inr (.inr (.inl ⟨rfl,hk⟩)))),kD0⟩
 ·exact⟨.inr (.inr (.inl ⟨kCW,hk⟩)),zCO hn⟩
 ·exact⟨.inr (.inr (.inr (.inr (.inr (.inr rfl))))),callL_size hn⟩
theorem made_ref (n:Nat) (x:S31) (h:Made n x) (hn:zE6 n≤200000):RefOk x:=by
 induction h with
 | ref n s h=>exact .mk 1 z28 s 0 [] (.inl ⟨.inr rfl,rfl⟩) kD0 kD0 (by have:=zCO h;omega) kD0 (fun j hj=>by rw[List.take_nil];decide) (fun y hy=>by cases hy) (fun y hy=>by cases hy)
 | lit n p q u h0 h1 h2 h3 hu =>
  have b:=ratS_size h0 h1 h2 h3;exact .mk 0 (ratS p q) u 0 [] (.inl ⟨.inl rfl,rfl⟩) kCW kCW (by have:=unitL_size hu;omega) kD0 (fun j hj=>by rw[List.take_nil];decide) (fun y hy=>by cases hy) (fun y hy=>by cases hy)
 | node n op name size l hk hl ih =>
  have hln:zE6 n≤200000:=by simp only[zE6] at hn;omega
  have h4:=nodeOk_le hk;refine .mk op z28 name size l (zFV hk).1 kD0 kD0 (by have:=(zFV hk).2;omega) kCW (fun j hj=>?_) (fun y hy=>?_) (fun y hy=>ih y hy hln)
  ·have:=joinR_size (zE6 n+2) ((l.take j).map fun y=>zAj y 0) (fun t ht=>by
    obtain⟨y,hy,rfl⟩:=List.mem_map.1 ht;exact kAz (zEZ y 0) (by have:=zEG n y (hl y (kCp hy));omega))
   rw[List.length_map,kAe] at this;simp only[zE6] at hn;have h5:=kBg (zE6 n+2+2) (show min j l.length≤4 by omega);omega
  ·have:=zEG n y (hl y hy);omega
theorem data_app (a b:ByteArray):(a++b).data.toList=a.data.toList++b.data.toList:=by simp[kCL]
end Go.Proofs.YtjaobihcdkjmbaaGreatDoor
end
section
namespace Go.Proofs.YtjaobihcdkjmbaaGreatDoor
open Go.RowKit Go.Maps Go.Proofs.YtjaobihcdkjmbaaGreatDoorW.PrintWords Go.Proofs.YtjaobihcdkjmbaaGreatDoor.PReadTokens
theorem keep_head (s:ByteArray) (p:Nat) (hp:p≤s.size):Keep s (s.extract 0 p) p:=by
 refine⟨s.data.toList.take p,s.data.toList.drop p,[],(kBa _ _).symm,?_,?_,.inl rfl⟩
 ·rw[kAS];simp
 ·rw[kAe];have:s.data.toList.length=s.size:=rfl;omega
theorem keep_long (s u:ByteArray) (p:Nat) (hp:p≤s.size):Keep s (s.extract 0 p++⟨#[32]⟩++u) p:=by
 refine⟨s.data.toList.take p,s.data.toList.drop p,32 :: u.data.toList,(kBa _ _).symm,?_,?_,.inr ⟨_,rfl⟩⟩
 ·rw[data_app,data_app,kAS];simp
 ·rw[kAe];have:s.data.toList.length=s.size:=rfl;omega
theorem long_size (s u:ByteArray) (p:Nat) (hp:p≤s.size):(s.extract 0 p++(⟨#[32]⟩:ByteArray)++u).size=p+1+u.size:=by
 rw[kBj,kBj,kAy];have:(⟨#[32]⟩:ByteArray).size=1:=rfl;omega
theorem mid_size (s u:ByteArray) (k m:Nat):(s.extract 0 k++(⟨#[32]⟩:ByteArray)++u.extract m u.size).size≤s.size+1+u.size:=by
 rw[kBj,kBj,kAy,kAy];have:(⟨#[32]⟩:ByteArray).size=1:=rfl;omega
theorem readS_at {s:ByteArray} {q:Nat} (h:zBk chkR s=q):zBN chkR s=(z31,(q:Int),1):=by
 unfold zBN;rw[h,kAb kCW]
theorem readS_un {s:ByteArray} (h:zBk chkR s=-1):∃x,zBN chkR s=(x,0,0)∨zBN chkR s=(x,0,7):=by
 unfold zBN;rw[h,kAa kD0]
 cases hp:zBK chkR s with
 | error p=>exact⟨z31,.inl rfl⟩
 | ok r =>
  by_cases hd:30<zAI r.1
  ·exact⟨z31,.inr (by show (if 30<zAI r.1 then _ else _)=_;rw[kAb hd])⟩
  ·exact⟨r.1,.inl (by show (if 30<zAI r.1 then _ else _)=_;rw[kAa hd])⟩
theorem readS_head {s:ByteArray} {q:Nat} (h:zBk chkR s=q∨zBk chkR s=-1):∃x p e,zBN chkR s=(x,p,e)∧((p=(q:Int)∧e=1)∨(p=0∧e=0)∨(p=0∧e=7)):=by
 rcases h with h | h
 ·exact⟨_,_,_,readS_at h,.inl ⟨rfl,rfl⟩⟩
 ·obtain⟨x,h | h⟩:=readS_un h
  ·exact⟨_,_,_,h,.inr (.inl ⟨rfl,rfl⟩)⟩
  ·exact⟨_,_,_,h,.inr (.inr ⟨rfl,rfl⟩)⟩
theorem ex_agg {w:World} {S:Nat→Prop} {x:S31} {v5:Value} (h:Ex w S x (exV x v5)):∃A n c,v5=.slice A n c:=by
 obtain⟨v,A,n,c,h1,rfl,_⟩:=h.cells;unfold exV at h1;injection h1 with h1;simp at h1;exact⟨A,n,c,h1⟩
def Rg (w:World) (M:Nat) (W:World):Prop:=(∃N,N≤M∧Rod W w.heap.size N)∧Below w.heap.size w W
theorem Rg.drew {w W:World} {M:Nat} (h:Rg w M W):Rg w M W.drew:=by
 obtain⟨⟨N,h1,h2⟩,h3⟩:=h;exact⟨⟨N,h1,h2.below (kA3 _ W).drew⟩,h3.drew⟩
theorem Up2_calls (w:World) (M:Nat) (n:Int) (W:World) (h:Rg w M W) (hM:M≤5000) (hn:n≤1000000) :
  Calls Tryz.prog 22 #[.pointer (some ⟨w.heap.size,0,none⟩),.int .i64 n] W fun e W'=>∃x,e=.returned (.int .i64 x)∧0≤x∧(x≤n∨x=0)∧Rg w (M+1) W':=by
 obtain⟨⟨N,hN,hR⟩,hB⟩:=h;have ht:=turn_calls w.heap.size N W hR kCW;have HB:=kA1 hB;clear hB;go_enter Tryz.func22,Tryz.ntmps22;go_wp2_with fail;refine ht.mono ?_;rintro e w1 ⟨⟨x,rfl,hx⟩,hr,hg⟩;have hB1:=HB.out.grown hg HB.out.size (fun k e=>by injection e with e;omega);clear ht;by_cases h1:n<1
 ·have hd:decide (n<1)=true:=kA5 h1;go_wp2;go_ret;exact⟨0,rfl,kCW,.inr rfl,⟨_,kCW,hr⟩,hB1⟩
 ·have hd:decide (n<1)=false:=kA6 h1;have hn1:(n=0)=False:=kCZ
  go_wp2_with fail;have h3:0≤x % (n+1):=kBH _ kCW;have h4:x % (n+1)<n+1:=kBq _ kCW;have e:wrap64 (x % (n+1))=x % (n+1):=by generalize x % (n+1)=y at *;unfold wrap64;omega
  rw[e];go_ret;exact⟨_,rfl,h3,.inl kCW,⟨_,kCW,hr⟩,hB1⟩
theorem zGm (A:Option Addr) (l:List Int) (c:Nat) (hl:l.length≤9223372036854775807) (w:World) (hc:Kd.C (Kd.int .i64) w A l.length l) (hS:Start w) (hT:Tab w) :
  Calls Tryz.prog 6 #[.slice A l.length c] w fun e w'=>e=.returned (.bool true)∧Below w.heap.size w w':=by
 have hr:=NewRod_calls A l c hl w hc;have HS:=kA1 hS;have HT:=kA1 hT;clear hc hS hT hl;go_enter Tryz.func6,Tryz.ntmps6;go_wp2_with fail;refine hr.mono ?_;rintro e w1 ⟨rfl,r1,hb1⟩;clear hr;have hx:=zDT 3 kD0 w.heap.size 0 w1 r1 kD0;have hlt1:=r1.lt;go_wp2_with fail;refine hx.mono ?_;rintro e w2 ⟨x,vx,rfl,hx1,hx2,r2,g2⟩;have hb2:Below w.heap.size w w2:=hb1.grown g2 (kAN hlt1) (fun k e=>by injection e with e;omega);clear hx hb1 g2 r1;have ht:=zEe x (made_ref 3 x hx1 kD0) _ w2 hx2.vw;go_wp2_with fail;refine ht.mono ?_;rintro e w3 ⟨rfl,hb3⟩;have r3:=r2.below hb3;have hb3':=hb2.trans (hb3.mono hb2.size);clear ht hx2 r2 hb3 hb2;have htx:=zEG 3 x hx1;have hy:=zDT 2 kD0 w.heap.size (0+cost 3) w3 r3 kD0;generalize zCd x=s at *;clear hx1;go_wp2_with fail;refine hy.mono ?_;rintro e w4 ⟨y,vy,rfl,hy1,hy2,r4,g4⟩;have hb4:Below w.heap.size w w4:=hb3'.grown g4 hb3'.size (fun k e=>by injection e with e;omega);have ht:=zEe y (made_ref 2 y hy1 kD0) _ w4 hy2.vw;clear hy hb3' g4 r3;go_wp2_with fail;refine ht.mono ?_;rintro e w5 ⟨rfl,hb5⟩;have hr5:Rg w 2000 w5:=⟨⟨_,kD0,r4.below hb5⟩,hb4.trans (hb5.mono hb4.size)⟩;have hty:=zEG 2 y hy1;generalize zCd y=u at *;clear ht hy1 hy2 r4 hb4 hb5;have hsz:s.size≤4000:=kAz htx kD0;have husz:u.size≤4000:=kAz hty kD0;clear htx hty;have hw0:wrap64 ((s.size:Int)+u.size)=(s.size:Int)+u.size:=by unfold wrap64;omega
 by_cases h6:600<s.size+u.size
 ·have hd6:decide ((600:Int)<(s.size:Int)+u.size)=true:=kA5 kCW;have htd:=zCT w5 (HS.out.below hr5.2) (HT.out.below hr5.2);go_wp2_with fail;refine htd.mono ?_;rintro e we ⟨rfl,hbe⟩;go_wp2;go_ret;exact⟨rfl,hr5.2.trans (hbe.mono hr5.2.size)⟩
 ·have hd6:decide ((600:Int)<(s.size:Int)+u.size)=false:=kA6 kCW;have hu1:IntKind.i64.wrap ((u.size:Int)-1)=(u.size:Int)-1:=by simp[IntKind.wrap,IntKind.bits,IntKind.signed];omega
  have hu2:wrap64 ((u.size:Int)-1)=(u.size:Int)-1:=by unfold wrap64;omega
  have hu6:u.size≤600:=kCW
  have HA:=kA1 (fun W M (h:Rg w M W) (hM:M≤5000)=>Up2_calls w M s.size W h hM kCW);have HB:=kA1 (fun W M (h:Rg w M W) (hM:M≤5000)=>Up2_calls w M ((u.size:Int)-1) W h hM kCW);go_upto_region 5 with (fail);go_cut [6] (fun v6 wc=>∃wv:ByteArray,v6=.string wv∧wv.size≤700∧Hid (Below w.heap.size w wc))
  case first =>
   have hr5d:=hr5.drew
   go_region_with (first
    | (go_at_call 22;(with_reducible refine (HA.out _ _ hr5d kD0).mono ?_);rintro e w6 ⟨k,rfl,hk0,hk1,hr6⟩;have hk2:k≤s.size:=kCW)
    | (go_at_call 22;(with_reducible refine (HA.out _ _ hr7 kD0).mono ?_);rintro e w6 ⟨k,rfl,hk0,hk1,hr6⟩;have hk2:k≤s.size:=kCW)
    | (go_at_call 22;(with_reducible refine (HB.out _ _ hr5d kD0).mono ?_);rintro e w7 ⟨m,rfl,hm0,hm1,hr7⟩;have hm2:m≤u.size:=kCW)
    | (go_at_call 22;(with_reducible refine (HB.out _ _ hr6 kD0).mono ?_);rintro e w7 ⟨m,rfl,hm0,hm1,hr7⟩;have hm2:m≤u.size:=kCW))
   all_goals
    have hz:=mid_size s u k.toNat m.toNat;go_wp2_with fail
    go_meet
    exact⟨_,rfl,kCW,kA1 hr7.2⟩
  case rest =>
   obtain⟨wv,rfl,hwz,hB⟩:=hcut;clear HA HB hr5 hu1 hu2 hd6 h6 hw0;obtain⟨j,hst,hg⟩:=stop_all wv;have hre:=read_any wv kCW wc (HS.out.below hB.out);unfold zBz at hre;rcases zFz hg hst with hp | ⟨hp,-⟩
   ·rw[readS_at hp] at hre;have hqle:=plc_le hg;have hHead:=readS_head (head_place hg hst (keep_head wv _ hqle) kDC);have hLong:∀t l,plc wv j<wv.size→zA6 (wv.extract (plc wv j) wv.size)=t :: l→t.f0≠-1→t.f2=0→plc wv j+tokN t≤wv.size∧zBk chkR (wv.extract 0 (plc wv j+tokN t)++⟨#[32]⟩++u)=plc wv j:=fun t l h1 h2 h3 h4=>by
     obtain⟨g1,g2⟩:=tail_good hg h1 h2 h3 h4;have g3:=end_le g1;rw[g2] at g3;exact⟨g3,long_place g1 hst (by rw[g2];exact keep_long wv u _ g3)⟩
    obtain⟨q,hq⟩:∃q,q=plc wv j:=⟨_,rfl⟩;rw[← hq] at hre hqle hHead hLong;have HLong:=kA1 hLong;clear hLong hq hp hg hst;go_wp2_with fail;refine hre.mono ?_;rintro e w7 ⟨v5,rfl,hE,hb7⟩;obtain⟨Az,nz,cz,rfl⟩:=ex_agg hE;have hB7:=hB.out.trans (hb7.mono hB.out.size);have hB8:=hB7.alloc hB7.size (.cells #[.int .i64 z31.f0,.string z31.f1.f0,.string z31.f1.f1,.string z31.f2,.int .i64 z31.f3,.slice Az nz cz] 31);obtain⟨W8,hW8⟩:∃X,X=w7.alloc (.cells #[.int .i64 z31.f0,.string z31.f1.f0,.string z31.f1.f1,.string z31.f2,.int .i64 z31.f3,.slice Az nz cz] 31):=⟨_,rfl⟩;rw[← hW8] at hB8;have HW8:=kA1 hW8;have HB8:=kA1 hB8;clear hre hE hb7 hB7 hW8 hB8 hB;have hd1:decide ((q:Int)<0)=false:=kA6 kCW;have hd2:decide ((wv.size:Int)<(q:Int))=false:=kA6 kCW;unfold exV;go_upto_region 7 with (fail);rw[← HW8.out];clear HW8;go_upto_region 12 with (fail);have hhz:(wv.extract 0 q).size=q:=kDC
    have hre2:=read_any (wv.extract 0 q) kCW W8 (HS.out.below HB8.out);unfold zBz at hre2;obtain⟨X,P2,E2,hrd,hE⟩:=hHead;rw[hrd] at hre2;simp only at hre2;clear hrd;go_wp2_with fail;refine hre2.mono ?_;rintro e w9 ⟨v5,rfl,hEx,hb9⟩;obtain⟨Ay,ny,cy,rfl⟩:=ex_agg hEx;have hB9:=HB8.out.trans (hb9.mono HB8.out.size);have hBa:=hB9.alloc hB9.size (.cells #[.int .i64 X.f0,.string X.f1.f0,.string X.f1.f1,.string X.f2,.int .i64 X.f3,.slice Ay ny cy] 31);obtain⟨Wa,hWa⟩:∃Y,Y=w9.alloc (.cells #[.int .i64 X.f0,.string X.f1.f0,.string X.f1.f1,.string X.f2,.int .i64 X.f3,.slice Ay ny cy] 31):=⟨_,rfl⟩;rw[← hWa] at hBa;have HWa:=kA1 hWa;have HBa:=kA1 hBa;have HHZ:=kA1 hhz;clear hre2 hEx hb9 hB9 hWa hBa HB8;unfold exV;go_upto_region 13 with (fail);rw[← HWa.out];clear HWa;have hfi:=first_calls (wv.extract q wv.size) kDC Wa;unfold FirstPost at hfi;rcases hE with⟨rfl,rfl⟩ | ⟨rfl,rfl⟩ | ⟨rfl,rfl⟩
    all_goals
     have hhd:((q:Int) != ((wv.extract 0 q).size:Int))=false:=by rw[HHZ.out];simp
     by_cases hend:q=wv.size
     ·have hend':((q:Int)==(wv.size:Int))=true:=by rw[hend];simp
      have hBa:=HBa.out;have htd:=zCT Wa (HS.out.below hBa) (HT.out.below hBa);go_wp2_with fail;refine htd.mono ?_;rintro e we ⟨rfl,hbe⟩;go_wp2;go_ret;exact⟨rfl,hBa.trans (hbe.mono hBa.size)⟩
     ·have hend':((q:Int)==(wv.size:Int))=false:=zAA kCW;go_wp2_with fail;refine hfi.mono ?_;rintro e wb ⟨fa,fb,fc,fn,ok,rfl,hbb,hok⟩;have hBb:=HBa.out.trans (hbb.mono HBa.out.size);have hBc:=hBb.alloc hBb.size (.cells #[.int .i64 fa,.string fb,.int .i64 fc] 47);obtain⟨Wc,hWc⟩:∃Y,Y=wb.alloc (.cells #[.int .i64 fa,.string fb,.int .i64 fc] 47):=⟨_,rfl⟩;rw[← hWc] at hBc;have HWc:=kA1 hWc;clear hfi hbb hBb hWc;go_upto_region 18 with (fail);rw[← HWc.out];clear HWc
      cases ok with
      | false =>
       have htd:=zCT Wc (HS.out.below hBc) (HT.out.below hBc);go_wp2_with fail;refine htd.mono ?_;rintro e we ⟨rfl,hbe⟩;go_wp2;go_ret;exact⟨rfl,hBc.trans (hbe.mono hBc.size)⟩
      | true =>
       obtain⟨t,lt,t1,t2,t3,rfl⟩:=hok rfl;obtain⟨hle,hpl⟩:=HLong.out t lt kCW t1 t2 t3;generalize tokN t=n at *;obtain⟨m,hm⟩:∃m,m=q+n:=⟨_,rfl⟩;rw[← hm] at hle hpl;have hre3:=read_any (wv.extract 0 m++⟨#[32]⟩++u) (by rw[long_size _ _ _ hle];omega) Wc (HS.out.below hBc);unfold zBz at hre3;rw[readS_at hpl] at hre3;have hwq:wrap64 ((q:Int)+(n:Int))=(m:Int):=by unfold wrap64;omega
       clear t1 t2 t3 hok hpl HLong hm;go_wp2_with fail;refine hre3.mono ?_;rintro e wd ⟨v5,rfl,hEx,hbd⟩;obtain⟨Ad,nd,cd,rfl⟩:=ex_agg hEx;have hBd:=hBc.trans (hbd.mono hBc.size);have hBe:=hBd.alloc hBd.size (.cells #[.int .i64 z31.f0,.string z31.f1.f0,.string z31.f1.f1,.string z31.f2,.int .i64 z31.f3,.slice Ad nd cd] 31);obtain⟨We,hWe⟩:∃Y,Y=wd.alloc (.cells #[.int .i64 z31.f0,.string z31.f1.f0,.string z31.f1.f1,.string z31.f2,.int .i64 z31.f3,.slice Ad nd cd] 31):=⟨_,rfl⟩;rw[← hWe] at hBe;have HWe:=kA1 hWe;clear hre3 hEx hbd hBd hWe;unfold exV;go_upto_region 21 with (fail);rw[← HWe.out];clear HWe;have htd:=zCT We (HS.out.below hBe) (HT.out.below hBe);go_wp2_with fail;refine htd.mono ?_;rintro e we ⟨rfl,hbe⟩;go_wp2;go_ret;exact⟨rfl,hBe.trans (hbe.mono hBe.size)⟩
   ·obtain⟨X,hrd⟩:=readS_un hp;have key:∃E2:Int,zBN chkR wv=(X,0,E2)∧(E2=0∨E2=7):=by
     rcases hrd with h | h
     ·exact⟨_,h,.inl rfl⟩
     ·exact⟨_,h,.inr rfl⟩
    obtain⟨E2,hr2,hE2⟩:=key;rw[hr2] at hre;simp only at hre;clear hrd hr2 hp hg hst;go_wp2_with fail;refine hre.mono ?_;rintro e w7 ⟨v5,rfl,hE,hb7⟩;obtain⟨Az,nz,cz,rfl⟩:=ex_agg hE;have hB7:=hB.out.trans (hb7.mono hB.out.size);have hB8:=hB7.alloc hB7.size (.cells #[.int .i64 X.f0,.string X.f1.f0,.string X.f1.f1,.string X.f2,.int .i64 X.f3,.slice Az nz cz] 31);obtain⟨W8,hW8⟩:∃Y,Y=w7.alloc (.cells #[.int .i64 X.f0,.string X.f1.f0,.string X.f1.f1,.string X.f2,.int .i64 X.f3,.slice Az nz cz] 31):=⟨_,rfl⟩;rw[← hW8] at hB8;have HW8:=kA1 hW8;clear hre hE hb7 hB7 hW8 hB;unfold exV;go_upto_region 7 with (fail);rw[← HW8.out];clear HW8;rcases hE2 with rfl | rfl
    all_goals
     have htd:=zCT W8 (HS.out.below hB8) (HT.out.below hB8);go_wp2_with fail;refine htd.mono ?_;rintro e we ⟨rfl,hbe⟩;go_wp2;go_ret;exact⟨rfl,hB8.trans (hbe.mono hB8.size)⟩
end Go.Proofs.YtjaobihcdkjmbaaGreatDoor
end
section
namespace Go.Proofs.YtjaobihcdkjmbaaGreatDoor
open Go.ChangeMaps (open_string)
open Go.RowKit Go.ChangeShapes Go.WideShapes Go.ChangeAt Go.Proofs.YtjaobihcdkjmbaaGreatDoorW.PrintWords
def aP:Array Value:=#[.slice none 0 0]
theorem zFt (os:Os) (started:os.Started) (H:Type) (enc:TypeId×Value→H) :
  ReturnsInHanded {} Tryz.checked os 6 .any (fun w args=>(Rows.readPlaceSpec.pre enc Tryz.prog Tryz.f6 [] false w args∧laidMetH Tryz.prog laidL w)∧sizedMet enc Tryz.prog Tryz.f6 (OpenSpec.ofChange Rows.readPlaceSpec) false w args)
   (Rows.readPlaceSpec.post enc Tryz.prog Tryz.f6 false true false false):=by
 refine returnsInHanded_of_change_and (C:=Tryz.checked) (X:=fun w _=>laidMetH Tryz.prog laidL w) (fun _ _ _ hh h=>h.of_heap hh) noKnob started kCX Tryz.func6
  (ChangeSpec.witness_shaped (enc:=enc) (C:=Tryz.checked) (os:=os) (X:=fun w _=>laidMetH Tryz.prog laidL w) false (World.doorLaid Tryz.prog 69 os) aP 6 rfl (World.shaped_of_RefB kCX kCX) kCX kCX kCX (door_met os _)) ?_
 intro W base args ds gs before hval0 hW _ _ hL _;have hval:∀(j:Nat) t v,Tryz.f6.params[j]?=some t→args[j]?=some v→Value.okWide Tryz.prog W .any base t v:=hval0;have hW':=hW;obtain⟨p,q,hA0,hV,rfl,hfz,hnd⟩:=hW;have hA:DataW.TrodAll enc Tryz.prog W 0 (fun _=>true) true Tryz.f6.params.toList args.toList ds p:=hA0;have hlt:∀x∈p,x.block<W.heap.size:=fun x hx=>by simpa using hW'.lt x (kC2 _ hx)
 have hA2:=hA;rw[Tryz.params6] at hA hval;obtain⟨v0,vs0,d0,ds0,p0,q0,hargs,rfl,rfl,h0,r0⟩:=trodAll_cons hA;obtain⟨rfl,rfl,rfl⟩:=trodAll_nil r0;obtain rfl:args=#[v0]:=by cases args;simp_all
 obtain⟨pp,hpp⟩:∃pp,pp=p0++[]:=⟨_,rfl⟩;rw[← hpp] at hA2 hlt hW';obtain⟨rfl,rfl⟩:=trodVars_none hV;obtain⟨A,c,l,rfl,hl,hc,hC⟩:=ints_in (okWide_slice Tryz.underlying22 (hval 0 22 v0 rfl rfl)) h0;obtain⟨hS,hT⟩:=start_of_laid hL;have e1:Rows.readPlaceSpec.fn H ([d0]++[])={ results:=[.lit (.bool true)],args:=[d0] }:=rfl;refine (zGm A l c hl W hC hS hT).mono fun e W' ⟨he,hb⟩=>?_
 subst he;refine⟨_,rfl,_,_,_,[],pp,[],hW',?_,?_,?_,hb.frame _,fun h=>by cases h⟩
 ·rw[e1];exact trodAll_mk1 (shut_bool Tryz.underlying4 true)
 ·rw[e1];exact trodAll_below hb _ _ _ _ (by rw[Tryz.params6];intro t ht;simp at ht;subst ht;exact⟨kCX,by rw[typesSize];decide⟩) hA2 hlt
 ·rw[e1];rfl
theorem ReadPlace_said:Rows.ReadPlaceSaid :=
 OpenClaim.holds_of_wide 6 Tryz.f6 rfl rfl rfl rfl rfl rfl rfl ⟨rfl,rfl,rfl,rfl,rfl⟩ rfl rfl rfl rfl rfl zFN Tryz.func6 zFs
  readPlace_inst readPlace_wrap
  (fun os started H enc _=>zFt os started H enc)
theorem zGl (f : FuncId) (fn : Func) (hf : Tryz.pinned.checked.prog.funcNamed "metewand/metewandlaw13.ReadPlace" = some f) (hfn : Tryz.pinned.checked.prog.funcs[f]? = some fn) :
  true=Tryz.pinned.checked.prog.looks []∧∀(j:Nat) t,fn.params[j]?=some t→Tryz.pinned.checked.prog.wantsStandIn t=false:=by
 obtain rfl : f = 6 := kAc ((show Tryz.prog.funcNamed "metewand/metewandlaw13.ReadPlace" = some 6 by kernel_rfl).symm.trans hf) |>.symm
 obtain rfl:fn=Tryz.f6:=(kAc (Tryz.func6.symm.trans hfn)).symm;refine⟨zFO,fun j t ht=>?_⟩;rw[Tryz.params6] at ht;have hm:=Array.mem_of_getElem? ht;simp at hm;subst hm;exact (show Tryz.prog.wantsStandIn 22=false by kernel_rfl)
theorem ReadPlace_card:Rows.ReadPlaceCardSaid :=
 Claim7.holds_tied_plain_at .later [] _ _ _ _ ReadPlace_said (fun _ h=>by cases h) kCX (fun _ h=>by cases h) readPlace_row_tie rfl ⟨rfl,rfl⟩ kCX rfl zGl kCX
end Go.Proofs.YtjaobihcdkjmbaaGreatDoor
end
