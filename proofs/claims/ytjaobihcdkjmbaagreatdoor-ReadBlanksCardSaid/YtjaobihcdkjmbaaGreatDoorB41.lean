/- The law ReadBlanks answers true for every argument; a part of its proof. -/
import Derived.Test.YtjaobihcdkjmbaaGreatDoorBa
import Derived.Test.YtjaobihcdkjmbaaGreatDoorBb
import Derived.Test.YtjaobihcdkjmbaaGreatDoorB0
import Derived.Test.YtjaobihcdkjmbaaGreatDoorB1
import Derived.Test.YtjaobihcdkjmbaaGreatDoorB7
import Derived.Test.YtjaobihcdkjmbaaGreatDoorB9
import Derived.Test.YtjaobihcdkjmbaaGreatDoorB10
import Derived.Test.YtjaobihcdkjmbaaGreatDoorB11
import Derived.Test.YtjaobihcdkjmbaaGreatDoorB12
import Derived.Test.YtjaobihcdkjmbaaGreatDoorB19
import Derived.Test.YtjaobihcdkjmbaaGreatDoorB20
import Derived.Test.YtjaobihcdkjmbaaGreatDoorB22
import Derived.Test.YtjaobihcdkjmbaaGreatDoorB23
import Derived.Test.YtjaobihcdkjmbaaGreatDoorB25
import Derived.Test.YtjaobihcdkjmbaaGreatDoorB33
import Derived.Test.YtjaobihcdkjmbaaGreatDoorB37
import Derived.Test.YtjaobihcdkjmbaaGreatDoorB38
set_option linter.unusedVariables false
set_option linter.unusedSimpArgs false
namespace Go.Proofs.YtjaobihcdkjmbaaGreatDoor.PReadTokens
end Go.Proofs.YtjaobihcdkjmbaaGreatDoor.PReadTokens
namespace Go.Proofs.YtjaobihcdkjmbaaGreatDoorW.PrintLast
end Go.Proofs.YtjaobihcdkjmbaaGreatDoorW.PrintLast
namespace Go.Proofs.YtjaobihcdkjmbaaGreatDoorW.PrintWords
end Go.Proofs.YtjaobihcdkjmbaaGreatDoorW.PrintWords
set_option maxRecDepth 100000
set_option maxHeartbeats 4000000
section
namespace Go.Proofs.YtjaobihcdkjmbaaGreatDoor
open Go.RowKit Go.Proofs.YtjaobihcdkjmbaaGreatDoorW.PrintWords Go.Proofs.YtjaobihcdkjmbaaGreatDoor.PReadTokens
def zDW:Nat→Nat
 | 0=>20
 | n+1=>100+4*zDW n
theorem zCd {s:ByteArray} (h:s∈zFP):s.size≤2:=by
 simp only[zFP,kAI,kB9,kCi] at h;rcases h with rfl | rfl | rfl | rfl | rfl<;>decide
theorem callL_size {s:ByteArray} (h:s∈callL):s.size≤2:=by
 simp only[callL,kAI,kB9,kCi] at h;rcases h with rfl | rfl | rfl<;>decide
theorem zEE {s:ByteArray} (h:s∈zFw):s.size≤6:=by
 simp only[zFw,kAI,kB9,kCi] at h;rcases h with rfl | rfl | rfl | rfl | rfl<;>decide
theorem zFF {p q:Int} (h0:0≤p) (h1:p≤20) (h2:1≤q) (h3:q≤6):(ratS p q).f0.size≤2∧(ratS p q).f1.size≤2:=by
 have hg:0≤(Int.gcd p q:Int):=Int.natCast_nonneg _;have a:=kCK (Int.gcd p q:Int) h0;have b:=kCK (Int.gcd p q:Int) (show 0≤q by omega);have a0:=kBQ h0 hg;have b0:=kBQ (show 0≤q by omega) hg;exact⟨(dec_some _ a0 kCT).2,(dec_some _ b0 kCT).2⟩
theorem joinR_size (B:Nat):∀l:List ByteArray,(∀t∈l,t.size≤B)→(zBz l).size≤l.length*(B+2)
 | [],_=>by show 0≤_;omega
 | t :: ts,h=>by
  have key:∀(ts:List ByteArray) (a:ByteArray),(∀t∈ts,t.size≤B)→(ts.foldl (fun a u=>a++⟨#[44,32]⟩++u) a).size≤a.size+ts.length*(B+2):=by
   intro ts
   induction ts with
   | nil=>intro a _;simp
   | cons u ts ih =>
    intro a h;have h1:=ih (a++⟨#[44,32]⟩++u) (fun t ht=>h t (kAK _ ht));have h2:=h u kAJ;rw[kBD,kBD] at h1;have h3:(⟨#[44,32]⟩:ByteArray).size=2:=rfl;rw[List.foldl_cons,List.length_cons,kCx];omega
  have h1:=key ts t (fun u hu=>h u (kAK _ hu));have h2:=h t kAJ;rw[List.length_cons,kCx];show (ts.foldl (fun a u=>a++⟨#[44,32]⟩++u) t).size≤_;omega
theorem litR_size (num:S28) (name:ByteArray):(litR num name).size≤num.f0.size+num.f1.size+name.size+3:=by
 have h1:(⟨#[124]⟩:ByteArray).size=1:=rfl;have h2:(⟨#[123]⟩:ByteArray).size=1:=rfl;have h3:(⟨#[125]⟩:ByteArray).size=1:=rfl;unfold litR litN
 repeat' split
 all_goals
  (try simp only[kBD,h1,h2,h3])
  omega
theorem zFQ (n:Nat) (x:S31) (h:Made n x):(zBl x).size≤zDW n:=by
 induction h with
 | ref n s h =>
  have:=zCd h;have e:zBl ⟨1,z28,s,0,[]⟩=s:=rfl;rw[e]
  cases n<;>simp only[zDW]<;>omega
 | lit n p q u h0 h1 h2 h3 hu =>
  have a:=zEE hu;have b:=zFF h0 h1 h2 h3;have c:=litR_size (ratS p q) u;have e:zBl ⟨0,ratS p q,u,0,[]⟩=litR (ratS p q) u:=rfl;rw[e]
  cases n<;>simp only[zDW]<;>omega
 | node n op name size l hk hl ih =>
  have hr:∀y∈l,∀want,(zAi y want).size≤zDW n+2:=fun y hy want=>kAB (zEI y want) (by have:=ih y hy;omega)
  have hj:(zBz (l.map fun y=>zAi y 0)).size≤l.length*(zDW n+2+2):=by
   have:=joinR_size (zDW n+2) (l.map fun y=>zAi y 0) (fun t ht=>by
    obtain⟨y,hy,rfl⟩:=List.mem_map.1 ht;exact hr y hy 0)
   rwa [List.length_map] at this
  simp only[zDW];rcases hk with⟨rfl,rfl,rfl,hk⟩ | ⟨ho,rfl,rfl,hk⟩ | ⟨rfl,rfl,⟨hs0,hs1⟩,hk⟩ | ⟨rfl,rfl,rfl,hk0,hk1⟩ | ⟨ho,hn,⟨hs0,hs1⟩,hk⟩ | ⟨rfl,rfl,rfl,hk⟩ | ⟨rfl,hn,rfl,hk⟩ | ⟨rfl,hn,rfl,hk⟩
  ·match l,hk with
   | [a],_ =>
    have ha:=hr a kCV 2;have e:zBl ⟨2,z28,eB,0,[a]⟩=⟨#[45]⟩++zAi a 2:=rfl;rw[e];simp only[kAb,ByteArray.size_mk',kAc,List.length_cons,List.length_nil];omega
  ·match l,hk with
   | [a,b],_ =>
    have ha:=fun z=>hr a kCV z
    have hb:=fun z=>hr b kCV z
    have e:∃u v s:ByteArray,∃i j,zBl ⟨op,z28,eB,0,[a,b]⟩=zAi a i++s++zAi b j++u∧s.size≤3∧u.size≤3:=by
     have hz:∀t:ByteArray,t++⟨#[]⟩=t:=fun t=>by apply kBX;simp[kCH]
     rcases ho with rfl | rfl | rfl | rfl | rfl
     ·exact⟨⟨#[]⟩,⟨#[]⟩,⟨#[32,43,32]⟩,1,2,by rw[hz];rfl,kCW,kCW⟩
     ·exact⟨⟨#[]⟩,⟨#[]⟩,⟨#[32,45,32]⟩,1,2,by rw[hz];rfl,kCW,kCW⟩
     ·exact⟨⟨#[]⟩,⟨#[]⟩,⟨#[32,42,32]⟩,2,3,by rw[hz];rfl,kCW,kCW⟩
     ·exact⟨⟨#[]⟩,⟨#[]⟩,⟨#[32,47,32]⟩,2,3,by rw[hz];rfl,kCW,kCW⟩
     ·exact⟨⟨#[93]⟩,⟨#[]⟩,⟨#[91]⟩,4,0,rfl,kCW,kCW⟩
    obtain⟨u,_,s,i,j,e,hs,hu⟩:=e;have:=ha i;have:=hb j;rw[e];simp only[kAb];omega
  ·match l,hk with
   | [a],_ =>
    have ha:=hr a kCV 4;have hz:=zDM size hs0 kCT;have e:zBl ⟨7,z28,eB,size,[a]⟩=zAi a 4++⟨#[94]⟩++ofR size:=rfl;rw[e];simp only[kAb,ByteArray.size_mk',kAc,List.length_cons,List.length_nil];omega
  ·have e:zBl ⟨8,z28,eB,0,l⟩=⟨#[91]⟩++zBz (l.map fun y=>zAi y 0)++⟨#[93]⟩:=by
    rw[← zDf];rfl
   have:=kB6 (zDW n+2+2) (show l.length≤4 by omega);rw[e];simp only[kAb,ByteArray.size_mk',kAc,List.length_cons,List.length_nil];omega
  ·have hn:=zCd hn;have hz:=zDM size kCT kCT
   match l,hk with
   | [a],_ =>
    have ha:=hr a kCV 0;have e:∃u:ByteArray,u.size=4∧zBl ⟨op,z28,name,size,[a]⟩=u++name++⟨#[32,60,32]⟩++(ofR size)++⟨#[32,46,32]⟩++zAi a 0:=by
     rcases ho with rfl | rfl
     ·exact⟨_,rfl,rfl⟩
     ·exact⟨_,rfl,rfl⟩
    obtain⟨u,hu,e⟩:=e;rw[e];simp only[kAb,ByteArray.size_mk',kAc,List.length_cons,List.length_nil];omega
  ·match l,hk with
   | [a,b,c,d],_ =>
    have ha:=hr a kCV 1;have hb:=hr b kCV 1;have hc:=hr c kCV 0;have hd:=hr d kCV 0;have e:zBl ⟨12,z28,eB,0,[a,b,c,d]⟩=⟨#[105,102,32]⟩++zAi a 1++⟨#[32,60,32]⟩++zAi b 1++⟨#[32,116,104,101,110,32]⟩++zAi c 0++⟨#[32,101,108,115,101,32]⟩++zAi d 0:=rfl;rw[e];simp only[kAb,ByteArray.size_mk',kAc,List.length_cons,List.length_nil];omega
  ·have hn:=zCd hn
   match l,hk with
   | [a,b],_ =>
    have ha:=hr a kCV 0;have hb:=hr b kCV 0;have e:zBl ⟨13,z28,name,0,[a,b]⟩=⟨#[108,101,116,32]⟩++name++⟨#[32,61,32]⟩++zAi a 0++⟨#[32,105,110,32]⟩++zAi b 0:=rfl;rw[e];simp only[kAb,ByteArray.size_mk',kAc,List.length_cons,List.length_nil];omega
  ·have hn:=callL_size hn;have e:zBl ⟨14,z28,name,0,l⟩=name++⟨#[40]⟩++zBz (l.map fun y=>zAi y 0)++⟨#[41]⟩:=by
    rw[← zDf];rfl
   have:=kB6 (zDW n+2+2) (show l.length≤4 by omega);rw[e];simp only[kAb,ByteArray.size_mk',kAc,List.length_cons,List.length_nil];omega
theorem zEa {op:Int} {name:ByteArray} {size:Int} {k:Nat} (h:nodeOk op name size k):refKind op size k∧name.size≤2:=by
 rcases h with⟨rfl,rfl,rfl,hk⟩ | ⟨ho,rfl,rfl,hk⟩ | ⟨rfl,rfl,⟨hs0,hs1⟩,hk⟩ | ⟨rfl,rfl,rfl,hk0,hk1⟩ | ⟨ho,hn,⟨hs0,hs1⟩,hk⟩ | ⟨rfl,rfl,rfl,hk⟩ | ⟨rfl,hn,rfl,hk⟩ | ⟨rfl,hn,rfl,hk⟩
 ·exact⟨.inr (.inl ⟨rfl,hk⟩),kCW⟩
 ·exact⟨.inr (.inr (.inl ⟨kCT,hk⟩)),kCW⟩
 ·exact⟨.inr (.inr (.inr (.inl ⟨kCT,hk,kCT,kCT⟩))),kCW⟩
 ·exact⟨.inr (.inr (.inr (.inr (.inr (.inl rfl))))),kCW⟩
 ·exact⟨.inr (.inr (.inr (.inl ⟨kCT,hk,kCT,kCT⟩))),zCd hn⟩
 ·exact⟨.inr (.inr (.inr (.inr (.inl ⟨rfl,hk⟩)))),kCW⟩
 ·exact⟨.inr (.inr (.inl ⟨kCT,hk⟩)),zCd hn⟩
 ·exact⟨.inr (.inr (.inr (.inr (.inr (.inr rfl))))),callL_size hn⟩
theorem made_ref (n:Nat) (x:S31) (h:Made n x) (hn:zDW n≤200000):RefOk x:=by
 induction h with
 | ref n s h=>exact .mk 1 z28 s 0 [] (.inl ⟨.inr rfl,rfl⟩) kCW kCW (by have:=zCd h;omega) kCW (fun j hj=>by rw[List.take_nil];decide) (fun y hy=>by cases hy) (fun y hy=>by cases hy)
 | lit n p q u h0 h1 h2 h3 hu =>
  have b:=zFF h0 h1 h2 h3;exact .mk 0 (ratS p q) u 0 [] (.inl ⟨.inl rfl,rfl⟩) kCT kCT (by have:=zEE hu;omega) kCW (fun j hj=>by rw[List.take_nil];decide) (fun y hy=>by cases hy) (fun y hy=>by cases hy)
 | node n op name size l hk hl ih =>
  have hln:zDW n≤200000:=by simp only[zDW] at hn;omega
  have h4:=zFO hk;refine .mk op z28 name size l (zEa hk).1 kCW kCW (by have:=(zEa hk).2;omega) kCT (fun j hj=>?_) (fun y hy=>?_) (fun y hy=>ih y hy hln)
  ·have:=joinR_size (zDW n+2) ((l.take j).map fun y=>zAi y 0) (fun t ht=>by
    obtain⟨y,hy,rfl⟩:=List.mem_map.1 ht;exact kAB (zEI y 0) (by have:=zFQ n y (hl y (kCl hy));omega))
   rw[List.length_map,kAh] at this;simp only[zDW] at hn;have h5:=kB6 (zDW n+2+2) (show min j l.length≤4 by omega);omega
  ·have:=zFQ n y (hl y hy);omega
end Go.Proofs.YtjaobihcdkjmbaaGreatDoor
end
section
namespace Go.Proofs.YtjaobihcdkjmbaaGreatDoor
open Go.RowKit Go.Maps Go.WideShapes Go.Proofs.YtjaobihcdkjmbaaGreatDoorW.PrintWords Go.Proofs.YtjaobihcdkjmbaaGreatDoor.PReadTokens
theorem names_ok {s:ByteArray} (h:s∈zFP):zC0 s=true:=by
 simp only[zFP,kAI,kB9,kCi] at h;rcases h with rfl | rfl | rfl | rfl | rfl<;>kernel_rfl
theorem calls_ok {s:ByteArray} (h:s∈callL):zC0 s=true:=by
 simp only[callL,kAI,kB9,kCi] at h;rcases h with rfl | rfl | rfl<;>kernel_rfl
theorem units_ok {s:ByteArray} (h:s∈zFw):(!decide (s=⟨#[]⟩) && !zCw s)=false:=by
 simp only[zFw,kAI,kB9,kCi] at h;rcases h with rfl | rfl | rfl | rfl | rfl<;>kernel_rfl
theorem rats_all:((List.range 21).all fun p=>(List.range 6).all fun q=>(chkR (ratS (p:Int) ((q:Int)+1))==0) && !negB (ratS (p:Int) ((q:Int)+1)).f0)=true:=kCU
theorem rats_ok {p q:Int} (h0:0≤p) (h1:p≤20) (h2:1≤q) (h3:q≤6):chkR (ratS p q)=0∧negB (ratS p q).f0=false:=by
 have h:=kBi.1 rats_all p.toNat (kBO.2 kCT);have h':=kBi.1 h (q-1).toNat (kBO.2 kCT);have e1:((p.toNat:Nat):Int)=p:=kC6 h0;have e2:(((q-1).toNat:Nat):Int)+1=q:=kCT
 rw[e1,e2,kAj,kAx,Bool.not_eq_true'] at h';exact h'
theorem made_look {op:Int} {name:ByteArray} {size:Int} {l:List S31} (h:nodeOk op name size l.length):zDC ⟨op,z28,name,size,l⟩=0:=by
 unfold zDC midE tailE zDF;simp only;generalize l.length=k at *;rcases h with⟨rfl,rfl,rfl,hk⟩ | ⟨ho,rfl,rfl,hk⟩ | ⟨rfl,rfl,⟨hs0,hs1⟩,hk⟩ | ⟨rfl,rfl,rfl,hk0,hk1⟩ | ⟨ho,hn,⟨hs0,hs1⟩,hk⟩ | ⟨rfl,rfl,rfl,hk⟩ | ⟨rfl,hn,rfl,hk⟩ | ⟨rfl,hn,rfl,hk⟩
 ·subst hk;simp[zAL,zAN,zAw,zAx]
 ·subst hk;rcases ho with rfl | rfl | rfl | rfl | rfl<;>simp[zAL,zAN,zAw,zAx]
 ·subst hk;simp[zAL,zAN,zAw,zAx];omega
 ·simp[zAL,zAN,zAw,zAx];omega
 ·subst hk;have:=names_ok hn;rcases ho with rfl | rfl<;>(simp[zAL,zAN,zAw,zAx,this];omega)
 ·subst hk;simp[zAL,zAN,zAw,zAx]
 ·subst hk;have:=names_ok hn;simp[zAL,zAN,zAw,zAx,this]
 ·have:=calls_ok hn;simp[zAL,zAN,zAw,zAx,this];omega
theorem made_ok (n:Nat) (x:S31) (h:Made n x):OkX x:=by
 induction h with
 | ref n s h =>
  refine⟨_,?_,fun a ha=>by cases ha⟩;have:=names_ok h;unfold zDC midE tailE zDF;simp[zAL,zAN,zAw,zAx,this]
 | lit n p q u h0 h1 h2 h3 hu =>
  refine⟨_,?_,fun a ha=>by cases ha⟩;obtain⟨r1,r2⟩:=rats_ok h0 h1 h2 h3;have r3:=units_ok hu;unfold zDC midE tailE zDF;simp only[r1,r2,r3];simp[zAL,zAN,zAw,zAx]
 | node n op name size l hk hl ih=>exact⟨_,made_look hk,ih⟩
theorem made_depth (n:Nat) (x:S31) (h:Made n x):zAC x≤n+1:=by
 induction h with
 | ref n s h=>rw[zAr];simp[zB3]
 | lit n p q u h0 h1 h2 h3 hu=>rw[zAr];simp[zB3]
 | node n op name size l hk hl ih =>
  rw[zAr];have:=depthL_le (l:=l) (m:=n+1) ih;simp only;omega
def zF7:Nat→Nat
 | 0=>1
 | n+1=>1+4*zF7 n
theorem nodesM_pos (n:Nat):1≤zF7 n:=by cases n<;>simp[zF7]
theorem nodesL_le {l:List S31} {m:Nat} (h:∀a∈l,zAH a≤m):zAP l≤l.length*m:=by
 induction l with
 | nil=>simp[zAP]
 | cons a l ih =>
  have h1:=h a (kAJ ..);have h2:=ih (fun b hb=>h b (kAK _ hb));rw[zAP,List.length_cons,kCx];omega
theorem made_nodes (n:Nat) (x:S31) (h:Made n x):zAH x≤zF7 n:=by
 induction h with
 | ref n s h=>rw[zBx];have:=nodesM_pos n;simp[zAP];exact this
 | lit n p q u h0 h1 h2 h3 hu=>rw[zBx];have:=nodesM_pos n;simp[zAP];exact this
 | node n op name size l hk hl ih =>
  have h1:=nodesL_le (l:=l) ih;have h2:=zFO hk;have h3:=kB6 (zF7 n) h2;rw[zBx,zF7];simp only;omega
theorem made_small (n:Nat) (x:S31) (h:Made n x):zDv x=true∧szB x=true:=by
 induction h with
 | ref n s h =>
  have:=zCd h;exact⟨(zFy _).2 ⟨kDf,fun a ha=>by cases ha⟩,(sz_iff _).2 ⟨⟨show z28.f0.size≤4611686018427387904 by decide,show z28.f1.size≤4611686018427387904 by decide,kDf⟩,fun a ha=>by cases ha⟩⟩
 | lit n p q u h0 h1 h2 h3 hu =>
  have a:=zEE hu;have b:=zFF h0 h1 h2 h3;exact⟨(zFy _).2 ⟨kDf,fun a ha=>by cases ha⟩,(sz_iff _).2 ⟨⟨kDf,kDf,kDf⟩,fun a ha=>by cases ha⟩⟩
 | node n op name size l hk hl ih =>
  have:=(zEa hk).2;exact⟨(zFy _).2 ⟨kDf,fun a ha=>(ih a ha).1⟩,(sz_iff _).2 ⟨⟨show z28.f0.size≤4611686018427387904 by decide,show z28.f1.size≤4611686018427387904 by decide,kDf⟩,fun a ha=>(ih a ha).2⟩⟩
end Go.Proofs.YtjaobihcdkjmbaaGreatDoor
end
section
namespace Go.Proofs.YtjaobihcdkjmbaaGreatDoor
open Go.RowKit Go.Maps Go.Proofs.YtjaobihcdkjmbaaGreatDoorW.PrintWords Go.Proofs.YtjaobihcdkjmbaaGreatDoor.PReadTokens
structure Fine (x:S31):Prop where
 chk:chkE x=0
 ok:OkX x
 nodes:zAH x≤100000
 sz:szB x=true
 small:zDv x=true
theorem made_fine (n:Nat) (hn:n≤3) (x:S31) (h:Made n x):Fine x:=by
 have h1:=made_depth n x h;have h2:=made_nodes n x h;have h3:zF7 n≤100000:=by
  rcases (show n=0∨n=1∨n=2∨n=3 by omega) with rfl | rfl | rfl | rfl<;>decide
 exact⟨(zG4 x).2 ⟨made_ok n x h,kCT⟩,made_ok n x h,kCT,(made_small n x h).2,(made_small n x h).1⟩
theorem made_few (n:Nat) (hn:n≤3) (x:S31) (h:Made n x):zAH x≤200:=by
 have h2:=made_nodes n x h;have h3:zF7 n≤200:=by
  rcases (show n=0∨n=1∨n=2∨n=3 by omega) with rfl | rfl | rfl | rfl<;>decide
 omega
end Go.Proofs.YtjaobihcdkjmbaaGreatDoor
end
section
namespace Go.Proofs.YtjaobihcdkjmbaaGreatDoor
open Go.RowKit Go.Proofs.YtjaobihcdkjmbaaGreatDoorW.PrintWords Go.Proofs.YtjaobihcdkjmbaaGreatDoorW.PrintLast Go.Proofs.YtjaobihcdkjmbaaGreatDoor.PReadTokens
theorem eq28_self (a b:ByteArray) (w:World):(Op.equalIn 10000 28 (.agg #[.string a,.string b]) (.agg #[.string a,.string b])).run Tryz.prog w=.ok true w:=by
 rw[eq28];simp
theorem eqx_calls:∀(n:Nat) (x:S31),zAC x≤n→zAH x≤4611686018427387904→∀(va vb:Value) (w:World),Vw w x va→Vw w x vb →
  Calls Tryz.prog 19 #[va,vb] w fun e w'=>e=.returned (.bool true)∧Below w.heap.size w w':=by
 intro n
 induction n with
 | zero=>intro x h;rw[zAr] at h;omega
 | succ n ih =>
  intro x hd hn va vb w hva hvb;obtain⟨A,c,rfl,hc1,hc2⟩:=hva.out;obtain⟨A',c',rfl,hc1',hc2'⟩:=hvb.out;rw[zAr] at hd;rw[zBx] at hn;have hrec:∀(j:Nat) (hj:j<x.f4.length) v v' w,Vw w x.f4[j] v→Vw w x.f4[j] v'→Calls Tryz.prog 19 #[v,v'] w fun e w'=>e=.returned (.bool true)∧Below w.heap.size w w':=by
   intro j hj;have h1:=zB7 (kAA hj);have h2:=zDN (kAA hj);exact ih _ kCT kCT
  have hlen:=zCy x.f4;obtain⟨f0,f1,f2,f3,xs⟩:=x;simp only at *;unfold exV;simp only;have HR:=kA1 hrec;have HC:=kA1 hc2;have HC':=kA1 hc2';have E28:=eq28_self f1.f0 f1.f1;have e0:(f0==f0)=true:=kCV
  have e2:(f2.toList==f2.toList)=true:=kCV
  have e3:(f3==f3)=true:=kCV
  have e4:((xs.length:Int)==(xs.length:Int))=true:=kCV
  clear hva hvb ih hrec hc2 hc2';go_enter Tryz.func19,Tryz.ntmps19;go_wp2_with fail;have ba:((w.alloc (.cells #[.int .i64 f0,.string f1.f0,.string f1.f1,.string f2,.int .i64 f3,.slice A xs.length c] 31)).alloc (.cells #[.int .i64 f0,.string f1.f0,.string f1.f1,.string f2,.int .i64 f3,.slice A' xs.length c'] 31)).heap[w.heap.size]?=some (.cells #[.int .i64 f0,.string f1.f0,.string f1.f1,.string f2,.int .i64 f3,.slice A xs.length c] 31 (0,0)):=(kA4 _ _ _ kCV).trans (zA4 w _);have bb:((w.alloc (.cells #[.int .i64 f0,.string f1.f0,.string f1.f1,.string f2,.int .i64 f3,.slice A xs.length c] 31)).alloc (.cells #[.int .i64 f0,.string f1.f0,.string f1.f1,.string f2,.int .i64 f3,.slice A' xs.length c'] 31)).heap[w.heap.size+1]?=some (.cells #[.int .i64 f0,.string f1.f0,.string f1.f1,.string f2,.int .i64 f3,.slice A' xs.length c'] 31 (0,0)):=zAu _ _ _ kCV;have hb0:Below w.heap.size w ((w.alloc (.cells #[.int .i64 f0,.string f1.f0,.string f1.f1,.string f2,.int .i64 f3,.slice A xs.length c] 31)).alloc (.cells #[.int .i64 f0,.string f1.f0,.string f1.f1,.string f2,.int .i64 f3,.slice A' xs.length c'] 31)):=((kA3 _ w).alloc (kA2 _) _).alloc kCV _;generalize (w.alloc (.cells #[.int .i64 f0,.string f1.f0,.string f1.f1,.string f2,.int .i64 f3,.slice A xs.length c] 31)).alloc (.cells #[.int .i64 f0,.string f1.f0,.string f1.f1,.string f2,.int .i64 f3,.slice A' xs.length c'] 31)=W0 at *;generalize w.heap.size+1=Y at *;go_loopg [5] xs.length (fun k i wr=>∃j:Nat,j+k=xs.length∧i=.int .i64 j∧Hid (Below w.heap.size w wr)∧Hid (wr.heap[w.heap.size]?=some (.cells #[.int .i64 f0,.string f1.f0,.string f1.f1,.string f2,.int .i64 f3,.slice A xs.length c] 31 (0,0)))∧Hid (wr.heap[Y]?=some (.cells #[.int .i64 f0,.string f1.f0,.string f1.f1,.string f2,.int .i64 f3,.slice A' xs.length c'] 31 (0,0))))
  case atStart=>exact⟨0,kCT,rfl,kA1 hb0,kA1 ba,kA1 bb⟩
  case round =>
   clear ba bb hb0;obtain⟨j,hj,rfl,hb,ba,bb⟩:=hrel;have a5:=zA1 ba.out 5;have b5:=zA1 bb.out 5;simp at a5 b5;by_cases hjl:j<xs.length
   ·obtain⟨ad,A5,c5,hA,q0,q1,q2,q3,q4,q5,hva⟩:=zAo (Kd.C_below HC.out hb.out) j hjl;obtain⟨ad',A5',c5',hA',r0,r1,r2,r3,r4,r5,hvb⟩:=zAo (Kd.C_below HC'.out hb.out) j hjl;subst hA;subst hA';have hr:=HR.out j hjl;generalize xs[j]=y at *;have hr2:=hr _ _ wr.drew (hva.below (kA3 _ _).drew) (hvb.below (kA3 _ _).drew);unfold exV at hr2;have k1:wr.drew.cell? ⟨w.heap.size,5,none⟩=some (.slice (some ad) xs.length c):=a5;have k2:wr.drew.cell? ⟨Y,5,none⟩=some (.slice (some ad') xs.length c'):=b5;clear hva hvb hr;go_wp2_with fail;refine zDu (n:=12) (S:=fun w'=>w'.cell? ⟨w.heap.size,5,none⟩=some (.slice (some ad) xs.length c)∧w'.cell? ⟨Y,5,none⟩=some (.slice (some ad') xs.length c')∧w'.cell? (ad.add (j*6))=some (.int .i64 y.f0)∧w'.cell? ⟨(ad.add (j*6)).block,(ad.add (j*6)).off+1,none⟩=some (.string y.f1.f0)∧w'.cell? ⟨(ad.add (j*6)).block,(ad.add (j*6)).off+2,none⟩=some (.string y.f1.f1)∧w'.cell? ⟨(ad.add (j*6)).block,(ad.add (j*6)).off+3,none⟩=some (.string y.f2)∧w'.cell? ⟨(ad.add (j*6)).block,(ad.add (j*6)).off+4,none⟩=some (.int .i64 y.f3)∧w'.cell? ⟨(ad.add (j*6)).block,(ad.add (j*6)).off+5,none⟩=some (.slice A5 y.f4.length c5)∧w'.cell? (ad'.add (j*6))=some (.int .i64 y.f0)∧w'.cell? ⟨(ad'.add (j*6)).block,(ad'.add (j*6)).off+1,none⟩=some (.string y.f1.f0)∧w'.cell? ⟨(ad'.add (j*6)).block,(ad'.add (j*6)).off+2,none⟩=some (.string y.f1.f1)∧w'.cell? ⟨(ad'.add (j*6)).block,(ad'.add (j*6)).off+3,none⟩=some (.string y.f2)∧w'.cell? ⟨(ad'.add (j*6)).block,(ad'.add (j*6)).off+4,none⟩=some (.int .i64 y.f3)∧w'.cell? ⟨(ad'.add (j*6)).block,(ad'.add (j*6)).off+5,none⟩=some (.slice A5' y.f4.length c5')) (ds:=[10]) #[false,false,false,false,false,false,false,false,false,false,false,false] kCU rfl rfl ⟨k1,k2,q0,q1,q2,q3,q4,q5,r0,r1,r2,r3,r4,r5⟩ (fun hHeld=>?_);refine zAp (i:=0) (N:=some 48) (v:=?_) (a':=?_) #[true,false,false,false,false,false,false,false,false,false,false,false] rfl rfl kCU (fun _ _ _ h=>h) (Or.inl ⟨kCY,?_⟩) ?_ ?_;rotate_left
    ·intro w';go_simp
     with_reducible rfl
    rotate_left
    ·simp only[Act.put,kA0,List.set_cons_zero,List.set_cons_succ,zAc,zAd];rfl
    refine zAp (i:=2) (N:=some 50) (v:=?_) (a':=?_) #[true,false,true,false,false,false,false,false,false,false,false,false] rfl rfl kCU (fun _ _ _ h=>h) (Or.inl ⟨kCY,?_⟩) ?_ ?_;rotate_left
    ·intro w';go_simp
     with_reducible rfl
    rotate_left
    ·simp only[Act.put,kA0,List.set_cons_zero,List.set_cons_succ,zAc,zAd];rfl
    refine zAp (i:=5) (N:=some 53) (v:=?_) (a':=?_) #[true,false,true,false,false,true,false,false,false,false,false,false] rfl rfl kCU (fun _ _ _ h=>h) (Or.inl ⟨kCY,?_⟩) ?_ ?_;rotate_left
    ·intro w';go_simp
     with_reducible rfl
    rotate_left
    ·simp only[Act.put,kA0,List.set_cons_zero,List.set_cons_succ,zAc,zAd];rfl
    refine zAp (i:=7) (N:=some 55) (v:=?_) (a':=?_) #[true,false,true,false,false,true,false,true,false,false,false,false] rfl rfl kCU (fun _ _ _ h=>h) (Or.inl ⟨kCY,?_⟩) ?_ ?_;rotate_left
    ·intro w';go_simp
     with_reducible rfl
    rotate_left
    ·simp only[Act.put,kA0,List.set_cons_zero,List.set_cons_succ,zAc,zAd];rfl
    refine zD5 (i:=1) (N:=some 49) (v:=?_) (a':=?_) #[true,true,true,false,false,true,false,true,false,false,false,false] rfl rfl kCU (fun _ _ _ h=>h) (Or.inl ⟨kCY,?_⟩) hHeld ?_ ?_;rotate_left
    ·rintro w'⟨s0,s1,s2,s3,s4,s5,s6,s7,s8,s9,s10,s11,s12,s13⟩;go_simp
     with_reducible rfl
    rotate_left
    ·simp only[Act.put,kA0,List.set_cons_zero,List.set_cons_succ,zAc,zAd];rfl
    refine zAp (i:=3) (N:=some 51) (v:=?_) (a':=?_) #[true,true,true,true,false,true,false,true,false,false,false,false] rfl rfl kCU (fun _ _ _ h=>h) (Or.inl ⟨kCY,?_⟩) ?_ ?_;rotate_left
    ·intro w';go_simp
     with_reducible rfl
    rotate_left
    ·simp only[Act.put,kA0,List.set_cons_zero,List.set_cons_succ,zAc,zAd];rfl
    refine zD5 (i:=4) (N:=some 52) (v:=?_) (a':=?_) #[true,true,true,true,true,true,false,true,false,false,false,false] rfl rfl kCU (fun _ _ _ h=>h) (Or.inl ⟨kCY,?_⟩) hHeld ?_ ?_;rotate_left
    ·rintro w'⟨s0,s1,s2,s3,s4,s5,s6,s7,s8,s9,s10,s11,s12,s13⟩;go_simp
     with_reducible rfl
    rotate_left
    ·simp only[Act.put,kA0,List.set_cons_zero,List.set_cons_succ,zAc,zAd];rfl
    refine zD5 (i:=6) (N:=some 54) (v:=?_) (a':=?_) #[true,true,true,true,true,true,true,true,false,false,false,false] rfl rfl kCU (fun _ _ _ h=>h) (Or.inl ⟨kCY,?_⟩) hHeld ?_ ?_;rotate_left
    ·rintro w'⟨s0,s1,s2,s3,s4,s5,s6,s7,s8,s9,s10,s11,s12,s13⟩;go_simp
     with_reducible rfl
    rotate_left
    ·simp only[Act.put,kA0,List.set_cons_zero,List.set_cons_succ,zAc,zAd];rfl
    refine zAp (i:=8) (N:=some 56) (v:=?_) (a':=?_) #[true,true,true,true,true,true,true,true,true,false,false,false] rfl rfl kCU (fun _ _ _ h=>h) (Or.inl ⟨kCY,?_⟩) ?_ ?_;rotate_left
    ·intro w';go_simp
     with_reducible rfl
    rotate_left
    ·simp only[Act.put,kA0,List.set_cons_zero,List.set_cons_succ,zAc,zAd];rfl
    refine zD5 (i:=9) (N:=some 57) (v:=?_) (a':=?_) #[true,true,true,true,true,true,true,true,true,true,false,false] rfl rfl kCU (fun _ _ _ h=>h) (Or.inl ⟨kCY,?_⟩) hHeld ?_ ?_;rotate_left
    ·rintro w'⟨s0,s1,s2,s3,s4,s5,s6,s7,s8,s9,s10,s11,s12,s13⟩;go_simp
     with_reducible rfl
    rotate_left
    ·simp only[Act.put,kA0,List.set_cons_zero,List.set_cons_succ,zAc,zAd];rfl
    refine last_ (i:=10) (N:=some 58) #[true,true,true,true,true,true,true,true,true,true,true,false] rfl rfl kCU kCW (fun K hK=>?_);refine goes_ Tryz.func19 kCU rfl #[.agg #[.int .i64 y.f0,.string y.f1.f0,.string y.f1.f1,.string y.f2,.int .i64 y.f3,.slice A5 y.f4.length c5],.agg #[.int .i64 y.f0,.string y.f1.f0,.string y.f1.f1,.string y.f2,.int .i64 y.f3,.slice A5' y.f4.length c5']] kCY rfl rfl kDd ?_
    with_reducible refine (hr2).mono ?_
    rintro e w2⟨rfl,hb2⟩;refine⟨_,rfl,?_⟩;refine hK.out _ _ ?_;clear hK K;refine zC9 (a':=?_) ?_ ?_;rotate_left
    ·show Act.put _ (some 58) _=_;simp only[Act.put,kA0,List.set_cons_zero,List.set_cons_succ,zAc,zAd];rfl
    refine zAp (i:=11) (N:=some 59) (v:=?_) (a':=?_) #[true,true,true,true,true,true,true,true,true,true,true,true] rfl rfl kCU (fun _ _ _ h=>h) (Or.inl ⟨kCY,?_⟩) ?_ ?_;rotate_left
    ·intro w';go_simp
     with_reducible rfl
    rotate_left
    ·simp only[Act.put,kA0,List.set_cons_zero,List.set_cons_succ,zAc,zAd];rfl
    refine done_ kCU ?_;have hb3:=hb.out.trans ((kA3 _ wr).drew.trans (hb2.mono (kA2 _)) |>.mono hb.out.size);have ba2:=zA9 hb2 (show wr.drew.heap[w.heap.size]?=_ from ba.out);have bb2:=zA9 hb2 (show wr.drew.heap[Y]?=_ from bb.out);go_wp2_with fail;go_roundg (gk-1)
    case measure=>omega
    case rel=>exact⟨j+1,kCT,by go_num,kA1 hb3,kA1 ba2,kA1 bb2⟩
   ·obtain rfl:j=xs.length:=kCT
    go_wp2;go_ret;exact⟨rfl,hb.out⟩
end Go.Proofs.YtjaobihcdkjmbaaGreatDoor
end
