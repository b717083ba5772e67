/- What can be read as an expression is printed as a text that reads as the same, and is printed as itself: for every argument; a part of its proof. -/
import Derived.Test.YtjaobihcdkjmbaaGreatDoorDa
import Derived.Test.YtjaobihcdkjmbaaGreatDoorDb
import Derived.Test.YtjaobihcdkjmbaaGreatDoorD0
import Derived.Test.YtjaobihcdkjmbaaGreatDoorD6
import Derived.Test.YtjaobihcdkjmbaaGreatDoorD7
import Derived.Test.YtjaobihcdkjmbaaGreatDoorD9
import Derived.Test.YtjaobihcdkjmbaaGreatDoorD10
import Derived.Test.YtjaobihcdkjmbaaGreatDoorD14
import Derived.Test.YtjaobihcdkjmbaaGreatDoorD16
import Derived.Test.YtjaobihcdkjmbaaGreatDoorD17
import Derived.Test.YtjaobihcdkjmbaaGreatDoorD19
import Derived.Test.YtjaobihcdkjmbaaGreatDoorD20
import Derived.Test.YtjaobihcdkjmbaaGreatDoorD21
import Derived.Test.YtjaobihcdkjmbaaGreatDoorD23
import Derived.Test.YtjaobihcdkjmbaaGreatDoorD25
import Derived.Test.YtjaobihcdkjmbaaGreatDoorD26
import Derived.Test.YtjaobihcdkjmbaaGreatDoorD29
import Derived.Test.YtjaobihcdkjmbaaGreatDoorD34
import Derived.Test.YtjaobihcdkjmbaaGreatDoorD35
set_option linter.unusedVariables false
set_option linter.unusedSimpArgs false
namespace Go.Proofs.YtjaobihcdkjmbaaGreatDoor.PReadTokens
end Go.Proofs.YtjaobihcdkjmbaaGreatDoor.PReadTokens
namespace Go.Proofs.YtjaobihcdkjmbaaGreatDoorW.PrintWords
end Go.Proofs.YtjaobihcdkjmbaaGreatDoorW.PrintWords
set_option maxRecDepth 100000
set_option maxHeartbeats 8000000
section
namespace Go.Proofs.YtjaobihcdkjmbaaGreatDoor
open Go.RowKit Go.Proofs.YtjaobihcdkjmbaaGreatDoorW.PrintWords Go.Proofs.YtjaobihcdkjmbaaGreatDoor.PReadTokens
theorem len1 {l:List S31} (h:l.length=1):∃y,l=[y]:=List.length_eq_one_iff.1 h
theorem len2 {l:List S31} (h:l.length=2):∃y z,l=[y,z]:=by
 match l,h with
 | [y,z],_=>exact⟨y,z,rfl⟩
def zE7:Nat→Nat
 | 0=>20
 | n+1=>100+4*zE7 n
theorem zCM {s:ByteArray} (h:s∈nameL):s.size≤2:=by
 simp only[nameL,kAO,kBc,kCm] at h;rcases h with rfl | rfl | rfl | rfl | rfl<;>decide
theorem callL_size {s:ByteArray} (h:s∈callL):s.size≤2:=by
 simp only[callL,kAO,kBc,kCm] at h;rcases h with rfl | rfl | rfl<;>decide
theorem unitL_size {s:ByteArray} (h:s∈unitL):s.size≤6:=by
 simp only[unitL,kAO,kBc,kCm] at h;rcases h with rfl | rfl | rfl | rfl | rfl<;>decide
theorem ratS_size {p q:Int} (h0:0≤p) (h1:p≤20) (h2:1≤q) (h3:q≤6):(ratS p q).f0.size≤2∧(ratS p q).f1.size≤2:=by
 have hg:0≤(Int.gcd p q:Int):=Int.natCast_nonneg _;have a:=kCQ (Int.gcd p q:Int) h0;have b:=kCQ (Int.gcd p q:Int) (show 0≤q by omega);have a0:=kBV h0 hg;have b0:=kBV (show 0≤q by omega) hg;exact⟨(dec_some _ a0 kD4).2,(dec_some _ b0 kD4).2⟩
theorem joinR_size (B:Nat):∀l:List ByteArray,(∀t∈l,t.size≤B)→(zAV l).size≤l.length*(B+2)
 | [],_=>by show 0≤_;omega
 | t :: ts,h=>by
  have key:∀(ts:List ByteArray) (a:ByteArray),(∀t∈ts,t.size≤B)→(ts.foldl (fun a u=>a++⟨#[44,32]⟩++u) a).size≤a.size+ts.length*(B+2):=by
   intro ts
   induction ts with
   | nil=>intro a _;simp
   | cons u ts ih =>
    intro a h;have h1:=ih (a++⟨#[44,32]⟩++u) (fun t ht=>h t (kAM _ ht));have h2:=h u kAQ;rw[kBm,kBm] at h1;have h3:(⟨#[44,32]⟩:ByteArray).size=2:=rfl;rw[List.foldl_cons,List.length_cons,kCW];omega
  have h1:=key ts t (fun u hu=>h u (kAM _ hu));have h2:=h t kAQ;rw[List.length_cons,kCW];show (ts.foldl (fun a u=>a++⟨#[44,32]⟩++u) t).size≤_;omega
theorem litR_size (num:S28) (name:ByteArray):(litR num name).size≤num.f0.size+num.f1.size+name.size+3:=by
 have h1:(⟨#[124]⟩:ByteArray).size=1:=rfl;have h2:(⟨#[123]⟩:ByteArray).size=1:=rfl;have h3:(⟨#[125]⟩:ByteArray).size=1:=rfl;unfold litR litN
 repeat' split
 all_goals
  (try simp only[kBm,h1,h2,h3])
  omega
theorem zFX (n:Nat) (x:S31) (h:Made n x):(zAr x).size≤zE7 n:=by
 induction h with
 | ref n s h =>
  have:=zCM h;have e:zAr ⟨1,z28,s,0,[]⟩=s:=rfl;rw[e]
  cases n<;>simp only[zE7]<;>omega
 | lit n p q u h0 h1 h2 h3 hu =>
  have a:=unitL_size hu;have b:=ratS_size h0 h1 h2 h3;have c:=litR_size (ratS p q) u;have e:zAr ⟨0,ratS p q,u,0,[]⟩=litR (ratS p q) u:=rfl;rw[e]
  cases n<;>simp only[zE7]<;>omega
 | node n op name size l hk hl ih =>
  have hr:∀y∈l,∀want,(zA7 y want).size≤zE7 n+2:=fun y hy want=>kAB (zCK y want) (by have:=ih y hy;omega)
  have hj:(zAV (l.map fun y=>zA7 y 0)).size≤l.length*(zE7 n+2+2):=by
   have:=joinR_size (zE7 n+2) (l.map fun y=>zA7 y 0) (fun t ht=>by
    obtain⟨y,hy,rfl⟩:=List.mem_map.1 ht;exact hr y hy 0)
   rwa [kCh] at this
  simp only[zE7];rcases hk with⟨rfl,rfl,rfl,hk⟩ | ⟨ho,rfl,rfl,hk⟩ | ⟨rfl,rfl,⟨hs0,hs1⟩,hk⟩ | ⟨rfl,rfl,rfl,hk0,hk1⟩ | ⟨ho,hn,⟨hs0,hs1⟩,hk⟩ | ⟨rfl,rfl,rfl,hk⟩ | ⟨rfl,hn,rfl,hk⟩ | ⟨rfl,hn,rfl,hk⟩
  ·match l,hk with
   | [a],_ =>
    have ha:=hr a kD6 2;have e:zAr ⟨2,z28,eB,0,[a]⟩=⟨#[45]⟩++zA7 a 2:=rfl;rw[e];simp only[kA6,ByteArray.size_mk',kAb,List.length_cons,List.length_nil];omega
  ·match l,hk with
   | [a,b],_ =>
    have ha:=fun z=>hr a kD6 z
    have hb:=fun z=>hr b kD6 z
    have e:∃u v s:ByteArray,∃i j,zAr ⟨op,z28,eB,0,[a,b]⟩=zA7 a i++s++zA7 b j++u∧s.size≤3∧u.size≤3:=by
     have hz:∀t:ByteArray,t++⟨#[]⟩=t:=fun t=>by apply kBG;simp[kBP]
     rcases ho with rfl | rfl | rfl | rfl | rfl
     ·exact⟨⟨#[]⟩,⟨#[]⟩,⟨#[32,43,32]⟩,1,2,by rw[hz];rfl,kD7,kD7⟩
     ·exact⟨⟨#[]⟩,⟨#[]⟩,⟨#[32,45,32]⟩,1,2,by rw[hz];rfl,kD7,kD7⟩
     ·exact⟨⟨#[]⟩,⟨#[]⟩,⟨#[32,42,32]⟩,2,3,by rw[hz];rfl,kD7,kD7⟩
     ·exact⟨⟨#[]⟩,⟨#[]⟩,⟨#[32,47,32]⟩,2,3,by rw[hz];rfl,kD7,kD7⟩
     ·exact⟨⟨#[93]⟩,⟨#[]⟩,⟨#[91]⟩,4,0,rfl,kD7,kD7⟩
    obtain⟨u,_,s,i,j,e,hs,hu⟩:=e;have:=ha i;have:=hb j;rw[e];simp only[kA6];omega
  ·match l,hk with
   | [a],_ =>
    have ha:=hr a kD6 4;have hz:=zCz size hs0 kD4;have e:zAr ⟨7,z28,eB,size,[a]⟩=zA7 a 4++⟨#[94]⟩++ofR size:=rfl;rw[e];simp only[kA6,ByteArray.size_mk',kAb,List.length_cons,List.length_nil];omega
  ·have e:zAr ⟨8,z28,eB,0,l⟩=⟨#[91]⟩++zAV (l.map fun y=>zA7 y 0)++⟨#[93]⟩:=by
    rw[← zBS];rfl
   have:=kBi (zE7 n+2+2) (show l.length≤4 by omega);rw[e];simp only[kA6,ByteArray.size_mk',kAb,List.length_cons,List.length_nil];omega
  ·have hn:=zCM hn;have hz:=zCz size kD4 kD4
   match l,hk with
   | [a],_ =>
    have ha:=hr a kD6 0;have e:∃u:ByteArray,u.size=4∧zAr ⟨op,z28,name,size,[a]⟩=u++name++⟨#[32,60,32]⟩++(ofR size)++⟨#[32,46,32]⟩++zA7 a 0:=by
     rcases ho with rfl | rfl
     ·exact⟨_,rfl,rfl⟩
     ·exact⟨_,rfl,rfl⟩
    obtain⟨u,hu,e⟩:=e;rw[e];simp only[kA6,ByteArray.size_mk',kAb,List.length_cons,List.length_nil];omega
  ·match l,hk with
   | [a,b,c,d],_ =>
    have ha:=hr a kD6 1;have hb:=hr b kD6 1;have hc:=hr c kD6 0;have hd:=hr d kD6 0;have e:zAr ⟨12,z28,eB,0,[a,b,c,d]⟩=⟨#[105,102,32]⟩++zA7 a 1++⟨#[32,60,32]⟩++zA7 b 1++⟨#[32,116,104,101,110,32]⟩++zA7 c 0++⟨#[32,101,108,115,101,32]⟩++zA7 d 0:=rfl;rw[e];simp only[kA6,ByteArray.size_mk',kAb,List.length_cons,List.length_nil];omega
  ·have hn:=zCM hn
   match l,hk with
   | [a,b],_ =>
    have ha:=hr a kD6 0;have hb:=hr b kD6 0;have e:zAr ⟨13,z28,name,0,[a,b]⟩=⟨#[108,101,116,32]⟩++name++⟨#[32,61,32]⟩++zA7 a 0++⟨#[32,105,110,32]⟩++zA7 b 0:=rfl;rw[e];simp only[kA6,ByteArray.size_mk',kAb,List.length_cons,List.length_nil];omega
  ·have hn:=callL_size hn;have e:zAr ⟨14,z28,name,0,l⟩=name++⟨#[40]⟩++zAV (l.map fun y=>zA7 y 0)++⟨#[41]⟩:=by
    rw[← zBS];rfl
   have:=kBi (zE7 n+2+2) (show l.length≤4 by omega);rw[e];simp only[kA6,ByteArray.size_mk',kAb,List.length_cons,List.length_nil];omega
theorem zFV {op:Int} {name:ByteArray} {size:Int} {k:Nat} (h:nodeOk op name size k):refKind op size k∧name.size≤2:=by
 rcases h with⟨rfl,rfl,rfl,hk⟩ | ⟨ho,rfl,rfl,hk⟩ | ⟨rfl,rfl,⟨hs0,hs1⟩,hk⟩ | ⟨rfl,rfl,rfl,hk0,hk1⟩ | ⟨ho,hn,⟨hs0,hs1⟩,hk⟩ | ⟨rfl,rfl,rfl,hk⟩ | ⟨rfl,hn,rfl,hk⟩ | ⟨rfl,hn,rfl,hk⟩
 ·exact⟨.inr (.inl ⟨rfl,hk⟩),kD7⟩
 ·exact⟨.inr (.inr (.inl ⟨kD4,hk⟩)),kD7⟩
 ·exact⟨.inr (.inr (.inr (.inl ⟨kD4,hk,kD4,kD4⟩))),kD7⟩
 ·exact⟨.inr (.inr (.inr (.inr (.inr (.inl rfl))))),kD7⟩
 ·exact⟨.inr (.inr (.inr (.inl ⟨kD4,hk,kD4,kD4⟩))),zCM hn⟩
 ·exact⟨.inr (.inr (.inr (.inr (.inl ⟨rfl,hk⟩)))),kD7⟩
 ·exact⟨.inr (.inr (.inl ⟨kD4,hk⟩)),zCM hn⟩
 ·exact⟨.inr (.inr (.inr (.inr (.inr (.inr rfl))))),callL_size hn⟩
theorem made_ref (n:Nat) (x:S31) (h:Made n x) (hn:zE7 n≤200000):RefOk x:=by
 induction h with
 | ref n s h=>exact .mk 1 z28 s 0 [] (.inl ⟨.inr rfl,rfl⟩) kD7 kD7 (by have:=zCM h;omega) kD7 (fun j hj=>by rw[List.take_nil];decide) (fun y hy=>by cases hy) (fun y hy=>by cases hy)
 | lit n p q u h0 h1 h2 h3 hu =>
  have b:=ratS_size h0 h1 h2 h3;exact .mk 0 (ratS p q) u 0 [] (.inl ⟨.inl rfl,rfl⟩) kD4 kD4 (by have:=unitL_size hu;omega) kD7 (fun j hj=>by rw[List.take_nil];decide) (fun y hy=>by cases hy) (fun y hy=>by cases hy)
 | node n op name size l hk hl ih =>
  have hln:zE7 n≤200000:=by simp only[zE7] at hn;omega
  have h4:=nodeOk_le hk;refine .mk op z28 name size l (zFV hk).1 kD7 kD7 (by have:=(zFV hk).2;omega) kD4 (fun j hj=>?_) (fun y hy=>?_) (fun y hy=>ih y hy hln)
  ·have:=joinR_size (zE7 n+2) ((l.take j).map fun y=>zA7 y 0) (fun t ht=>by
    obtain⟨y,hy,rfl⟩:=List.mem_map.1 ht;exact kAB (zCK y 0) (by have:=zFX n y (hl y (kCo hy));omega))
   rw[kCh,kAe] at this;simp only[zE7] at hn;have h5:=kBi (zE7 n+2+2) (show min j l.length≤4 by omega);omega
  ·have:=zFX n y (hl y hy);omega
theorem dig_sr {c:UInt8} (h:digC c=true):sr c=4:=by
 unfold digC at h;rw[kAo,kAU,kAU] at h;unfold sr srt;rw[kA9 kD4,kA9 kD4,kA9 kD4,kAa kD4]
theorem zGb {w:ByteArray} (h:0<w.size):∃c r,w.data.toList=c :: r:=by
 cases e:w.data.toList with
 | nil=>exfalso;have:w.size=w.data.toList.length:=rfl;rw[e,List.length_nil] at this;omega
 | cons c r=>exact⟨c,r,rfl⟩
theorem zFP {w:ByteArray} (hf:zCp w=true) (hn:negB w=false) (hz:w.size≤400):Pc w.data.toList [(2,w)]:=by
 have ht:zBr w=w:=by unfold zBr;rw[kA9 (by rw[hn];decide)]
 obtain⟨c,r,hw⟩:=zGb (zFv hf);unfold zCp at hf;rw[ht,kAo,kAo] at hf;obtain⟨⟨h1,h2⟩,h3⟩:=hf;refine pc_num w c r hw (kBo.2 fun x hx=>okC_of.2 (by rw[dig_sr (kBo.1 h3 x hx)];simp)) ?_ hz;by_cases h48:c.toNat=48
 ·refine .inr ?_;have hzh:zD3 w=true:=by
   unfold zD3;rw[ht,hw];simp only[kAA];exact kCY.1 h48
  rw[hzh] at h2;simp at h2;have:=zFv (s:=w) (by unfold zCp;rw[ht,kAo,kAo];exact⟨⟨h1,by rw[hzh];simp;omega⟩,h3⟩);omega
 ·exact .inl h48
theorem nameFrom_all:∀(l:List UInt8) (pos:Nat),zBJ pos l=true→l.all (okC [2,3,4])=true:=by
 intro l
 induction l with
 | nil=>intro pos _;rfl
 | cons c l ih =>
  intro pos h;unfold zBJ at h;rw[kAo] at h;rw[List.all_cons,ih _ h.2,Bool.and_true,okC_of];have:=h.1;unfold nchk at this;rw[kCX,kAo,kAA,kAA] at this;rcases this with h | h
  ·rw[show sr c=2 from h];simp
  ·rw[show sr c=4 from h.1];simp
theorem pc_nm {w:ByteArray} (h:zBQ w=true):Pc w.data.toList [(0,w)]:=by
 have hk:zC8 w=0:=by
  unfold zC8;rw[h];unfold zBQ at h;rw[kAo,kAo] at h;have:=h.1.2;rw[Bool.not_eq_true'] at this;rw[this];rfl
 unfold zBQ at h;rw[kAo,kAo,kAo,kAU] at h;obtain⟨⟨⟨h1,_⟩,_⟩,h4⟩:=h;obtain⟨c,r,hw⟩:=zGb h1;have hc:sr c=2:=by
  rw[hw] at h4;unfold zBJ at h4;rw[kAo] at h4;have:=h4.1;unfold nchk at this;simp at this;exact this
 have:=pc_name w c r hw hc (nameFrom_all _ _ h4) (by rw[hk];decide);rw[hk] at this;exact this
theorem pc_wd (w:ByteArray) (c:UInt8) (r:List UInt8) (hw:w.data.toList=c :: r) (hc:sr c=2) (hall:w.data.toList.all (okC [2,3,4])=true) (hk:zE4 w=true):Pc w.data.toList [(1,w)]:=by
 have h:zC8 w=1:=by unfold zC8;rw[hk];rfl
 have:=pc_name w c r hw hc hall kDL;rw[h] at this;exact this
theorem ofR_dig:((List.range 100).all fun i=>zCp (ofR (i:Int)) && !negB (ofR (i:Int)))=true:=kD5
theorem ofR_neg:((List.range 9).all fun i=>(ofR (-((i:Int)+1))).data.toList==45 :: (ofR ((i:Int)+1)).data.toList)=true:=kD5
theorem pc_ofR {v:Int} (h0:0≤v) (h1:v≤99):Pc (ofR v).data.toList [(2,ofR v)]:=by
 have:=kBo.1 ofR_dig v.toNat (kBY.2 kD4);rw[kCw h0,kAo,Bool.not_eq_true'] at this;exact zFP this.1 this.2 (by have:=zCz v kD4 h1;omega)
theorem pc_size {v:Int} (h0:-9≤v) (h1:v≤99):Pc (ofR v).data.toList (zBN v):=by
 unfold zBN;by_cases h:v<0
 ·rw[kAa h];have:=kBo.1 ofR_neg (-v-1).toNat (kBY.2 kD4);rw[kCw kD4,kAA,show -((-v-1)+1)=v by omega,show (-v-1)+1=-v by omega] at this;rw[this];exact zC6 (b:=[45]) (l:=[sgTk 45]) (zBy 45 kD7) (pc_ofR kD4 kD4)
 ·rw[kA9 h];exact pc_ofR kD4 h1
theorem zAp (a b:ByteArray):(a++b).data.toList=a.data.toList++b.data.toList:=by simp[kBP]
theorem chk_num {num:S28} (h:chkR num=0):zCp num.f0=true∧(zBr num.f0).size≤400∧zCp num.f1=true∧(zBr num.f1).size≤400∧negB num.f1=false:=by
 unfold chkR at h;by_cases h1:zC0 num.f0=1∨zC0 num.f1=1∨negB num.f1=true∨num.f1=⟨#[48]⟩
 ·rw[kAa h1] at h;cases h
 rw[kA9 h1] at h;by_cases h2:zC0 num.f0≠0∨zC0 num.f1≠0
 ·rw[kAa h2] at h;cases h
 have e0:zC0 num.f0=0:=by
  by_cases e:zC0 num.f0=0
  ·exact e
  ·exact absurd (.inl e) h2
 have e1:zC0 num.f1=0:=by
  by_cases e:zC0 num.f1=0
  ·exact e
  ·exact absurd (.inr e) h2
 have e2:negB num.f1=false:=by
  cases e:negB num.f1
  ·rfl
  ·exact absurd (.inr (.inr (.inl e))) h1
 exact⟨(zDb e0).1,(zDb e0).2,(zDb e1).1,(zDb e1).2,e2⟩
theorem pc_lit {num:S28} {name:ByteArray} (hc:chkR num=0) (hn:negB num.f0=false) (hu:name=eB∨zCe name=true):Pc (litR num name).data.toList (litTk num name):=by
 obtain⟨f0,z0,f1,z1,n1⟩:=chk_num hc;have t0:zBr num.f0=num.f0:=by unfold zBr;rw[kA9 (by rw[hn];decide)]
 have t1:zBr num.f1=num.f1:=by unfold zBr;rw[kA9 (by rw[n1];decide)]
 rw[t0] at z0;rw[t1] at z1;have p0:=zFP f0 hn z0;have p1:=zFP f1 n1 z1;have hN:Pc (litN num).data.toList ((2,num.f0) :: (if num.f1.toList == [49] then [] else [sgTk 124,(2,num.f1)])):=by
  unfold litN;by_cases hb:(num.f1.toList == [49])=true
  ·rw[kAa hb,kAa hb];exact p0
  ·rw[kA9 hb,kA9 hb,zAp,zAp];exact zC6 (l:=[(2,num.f0),sgTk 124]) (zC9 (l:=[(2,num.f0)]) p0 (zBy 124 kD7) kD9) p1
 unfold litR litTk;by_cases h0:(name.toList == [])=true
 ·rw[kAa h0,kAa h0,kCi];exact hN
 ·rw[kA9 h0,kA9 h0,zAp,zAp,zAp];have hu':zCe name=true:=by
   rcases hu with rfl | hu
   ·exact absurd (by rw[kAV];rfl) h0
   ·exact hu
  have e:(litN num).data.toList++(⟨#[123]⟩:ByteArray).data.toList++name.data.toList++(⟨#[125]⟩:ByteArray).data.toList=(litN num).data.toList++123 :: (name.data.toList++[125]):=kD6
  rw[e];have:=(zC9 hN (pf_unit name hu') kD9).pc;simpa using this
theorem pc_paren (lv want:Int) {t:ByteArray} {l:List Tk} (h:Pc t.data.toList l):Pc (zCm lv want t).data.toList (zE5 lv want l):=by
 unfold zCm zE5;by_cases hl:lv<want
 ·rw[kAa hl,kAa hl,zAp,zAp,kBl];exact zC6 (l:=[sgTk 40]) (zBy 40 kD7) (zC9 h (zBy 41 kD7) kD9).pc
 ·rw[kA9 hl,kA9 hl];exact h
theorem pf_comma:Pf [44,32] [sgTk 44]:=zDu (l:=[sgTk 44]) (zBy 44 kD7) zBI
theorem joinTk_cons (t:List Tk) (ts:List (List Tk)):zCd (t :: ts)=t++ts.flatMap fun u=>sgTk 44 :: u:=by
 induction ts generalizing t with
 | nil=>simp[zCd]
 | cons u ts ih=>rw[zCd,ih];simp
inductive PcL:List ByteArray→List (List Tk)→Prop
 | nil:PcL [] []
 | cons {u:ByteArray} {m:List Tk} {ts:List ByteArray} {ls:List (List Tk)} (h:Pc u.data.toList m) (hs:PcL ts ls):PcL (u :: ts) (m :: ls)
theorem pc_fold:∀(ts:List ByteArray) (ls:List (List Tk)) (t:ByteArray) (l:List Tk),Pc t.data.toList l→PcL ts ls →
  Pc (ts.foldl (fun a u=>a++⟨#[44,32]⟩++u) t).data.toList (l++ls.flatMap fun u=>sgTk 44 :: u):=by
 intro ts
 induction ts with
 | nil=>intro ls t l h hs;cases hs;simpa using h
 | cons u ts ih =>
  intro ls t l h hs
  cases hs with
  | cons hu hs =>
   rename_i m ls;have:=ih ls (t++⟨#[44,32]⟩++u) (l++sgTk 44 :: m) (by
    rw[zAp,zAp];have:=zC6 (zC9 h pf_comma kD9) hu;simpa using this) hs
   simpa using this
theorem pc_join (ts:List ByteArray) (ls:List (List Tk)) (h:PcL ts ls):Pc (zAV ts).data.toList (zCd ls):=by
 cases h with
 | nil=>exact pf_nil.pc
 | cons h hs=>rw[joinTk_cons];exact pc_fold _ _ _ _ h hs
theorem getD_argsR (l:List S31) (i:Nat) (h:i<l.length):(zGh l).getD i (0,⟨#[]⟩)=(levR l[i].f0,zAr l[i]):=by
 induction l generalizing i with
 | nil=>simp at h
 | cons x l ih =>
  unfold zGh
  cases i with
  | zero=>rfl
  | succ i=>exact ih i kDS
theorem argR_eq (l:List S31) (i:Nat) (h:i<l.length) (want:Int):argR (zGh l) i want=zA7 l[i] want:=by
 unfold argR zA7;rw[getD_argsR l i h]
theorem openR_eq' (x:S31):zAr x=openRO x.f0 x.f1 x.f2 x.f3 (zGh x.f4):=by cases x;rfl
theorem pc_two {a b:ByteArray} {c:UInt8} {l m:List Tk} (ha:Pc a.data.toList l) (hb:Pc b.data.toList m) (hc:sr c=5):Pc (a++⟨#[32,c,32]⟩++b).data.toList (l++sgTk c :: m):=by
 rw[zAp,zAp];have:=zC6 (zC9 ha (zDu zBI (zDu (zBy c hc) zBI)) kD9) hb;simpa using this
theorem zFO (w:ByteArray) (c:UInt8) (r:List UInt8) (hw:w.data.toList=c :: r) (hc:sr c=2) (hall:w.data.toList.all (okC [2,3,4])=true) (hk:zE4 w=true):Pf (w.data.toList++[32]) [(1,w)]:=by
 have:=zC9 (pc_wd w c r hw hc hall hk) zBI kD9;simpa using this
theorem zEZ (w:ByteArray) (c:UInt8) (r:List UInt8) (hw:w.data.toList=c :: r) (hc:sr c=2) (hall:w.data.toList.all (okC [2,3,4])=true) (hk:zE4 w=true):Pf (32 :: (w.data.toList++[32])) [(1,w)] :=
 zDu zBI (zFO w c r hw hc hall hk)
theorem word_tab:Pf [116,97,98,32] [(1,⟨#[116,97,98]⟩)]:=zFO ⟨#[116,97,98]⟩ 116 _ rfl kD7 kD7 kD5
theorem word_sum:Pf [115,117,109,32] [(1,⟨#[115,117,109]⟩)]:=zFO ⟨#[115,117,109]⟩ 115 _ rfl kD7 kD7 kD5
theorem word_if:Pf [105,102,32] [(1,⟨#[105,102]⟩)]:=zFO ⟨#[105,102]⟩ 105 _ rfl kD7 kD7 kD5
theorem word_let:Pf [108,101,116,32] [(1,⟨#[108,101,116]⟩)]:=zFO ⟨#[108,101,116]⟩ 108 _ rfl kD7 kD7 kD5
theorem word_then:Pf [32,116,104,101,110,32] [(1,⟨#[116,104,101,110]⟩)]:=zEZ ⟨#[116,104,101,110]⟩ 116 _ rfl kD7 kD7 kD5
theorem word_else:Pf [32,101,108,115,101,32] [(1,⟨#[101,108,115,101]⟩)]:=zEZ ⟨#[101,108,115,101]⟩ 101 _ rfl kD7 kD7 kD5
theorem word_in:Pf [32,105,110,32] [(1,⟨#[105,110]⟩)]:=zEZ ⟨#[105,110]⟩ 105 _ rfl kD7 kD7 kD5
theorem pc_open:∀(d:Nat) (x:S31),zAI x≤d→OkX x→Pc (zAr x).data.toList (zAo x):=by
 intro d
 induction d with
 | zero=>intro x h;rw[zAw] at h;omega
 | succ d ih =>
  intro x hd hok;obtain⟨_,hlook,hl⟩:=hok;have hn:=zCT hlook;rw[zAw] at hd;have hx:∀a∈x.f4,Pc (zAr a).data.toList (zAo a):=fun a ha=>ih a kDR (hl a ha)
  have arg:∀(i:Nat) (want:Int),i<x.f4.length→Pc (argR (zGh x.f4) i want).data.toList (zBC (zCy x.f4) i want):=fun i want hi=>by
   rw[argR_eq _ i hi,argTk_eq _ i hi];exact pc_paren _ _ (hx _ (kAC hi))
  have args:Pc (zAV ((zGh x.f4).map fun p=>zCm p.1 0 p.2)).data.toList (zCd ((zCy x.f4).map fun p=>zE5 p.1 0 p.2)):=by
   rw[zBS,zFb];apply pc_join;have:∀l:List S31,(∀a∈l,Pc (zAr a).data.toList (zAo a))→PcL (l.map fun y=>zA7 y 0) (l.map fun y=>tkTk y 0):=by
    intro l
    induction l with
    | nil=>intro _;exact .nil
    | cons a l ih=>intro h;exact .cons (pc_paren _ _ (h a (kAQ ..))) (ih fun b hb=>h b (kAM _ hb))
   exact this _ hx
  rw[zDJ,openR_eq'];obtain⟨op,num,name,size,l⟩:=x;simp only at hn arg args ⊢;generalize zGh l=R at *;generalize zCy l=T at *;rcases hn with⟨rfl,h1,h2,h3,rfl,hk⟩ | ⟨rfl,rfl,hn,rfl,hk⟩ | ⟨rfl,rfl,rfl,rfl,hk⟩ | ⟨ho,rfl,rfl,rfl,hk⟩ | ⟨rfl,rfl,rfl,⟨hs0,hs1⟩,hk⟩ | ⟨rfl,rfl,rfl,rfl,hk0,hk1⟩ | ⟨ho,rfl,hn,⟨hs0,hs1⟩,hk⟩ | ⟨rfl,rfl,rfl,rfl,hk⟩ | ⟨rfl,rfl,hn,rfl,hk⟩ | ⟨rfl,rfl,hn,rfl,hk⟩
  ·exact pc_lit h1 h2 h3
  ·exact pc_nm hn
  ·show Pc (⟨#[45]⟩++argR R 0 2).data.toList (sgTk 45 :: zBC T 0 2);rw[zAp];exact zC6 (l:=[sgTk 45]) (zBy 45 kD7) (arg 0 2 kD4)
  ·rcases ho with rfl | rfl | rfl | rfl | rfl
   ·exact pc_two (arg 0 1 kD4) (arg 1 2 kD4) kD7
   ·exact pc_two (arg 0 1 kD4) (arg 1 2 kD4) kD7
   ·exact pc_two (arg 0 2 kD4) (arg 1 3 kD4) kD7
   ·exact pc_two (arg 0 2 kD4) (arg 1 3 kD4) kD7
   ·show Pc (argR R 0 4++⟨#[91]⟩++argR R 1 0++⟨#[93]⟩).data.toList (zBC T 0 4++sgTk 91 :: (zBC T 1 0++[sgTk 93]));rw[zAp,zAp,zAp];have:=(zC9 (zC6 (zC9 (arg 0 4 kD4) (zBy 91 kD7) kD9) (arg 1 0 kD4)) (zBy 93 kD7) kD9).pc;simpa using this
  ·show Pc (argR R 0 4++⟨#[94]⟩++ofR size).data.toList (zBC T 0 4++sgTk 94 :: zBN size);rw[zAp,zAp];have:=zC6 (zC9 (arg 0 4 kD4) (zBy 94 kD7) kD9) (pc_size hs0 kD4);simpa using this
  ·show Pc (⟨#[91]⟩++zAV (R.map fun p=>zCm p.1 0 p.2)++⟨#[93]⟩).data.toList (sgTk 91 :: (zCd (T.map fun p=>zE5 p.1 0 p.2)++[sgTk 93]));rw[zAp,zAp];have:=(zC9 (zC6 (zBy 91 kD7) args) (zBy 93 kD7) kD9).pc;simpa using this
  ·have tail:∀(w:ByteArray) (t:List UInt8),Pf t [(1,w)]→Pc (t++name.data.toList++[32,60,32]++(ofR size).data.toList++[32,46,32]++(argR R 0 0).data.toList) ((1,w) :: (0,name) :: sgTk 60 :: (zBN size++sgTk 46 :: zBC T 0 0)):=by
    intro w t ht;have h1:=zC9 (zC6 ht (pc_nm hn)) (zDu zBI (zDu (zBy 60 kD7) zBI)) kD9;have h2:=zC9 (zC6 h1 (pc_size kD4 hs1)) (zDu zBI (zDu (zBy 46 kD7) zBI)) kD9;have h3:=zC6 h2 (arg 0 0 kD4);simpa using h3
   rcases ho with rfl | rfl
   ·show Pc (⟨#[116,97,98,32]⟩++name++⟨#[32,60,32]⟩++(ofR size)++⟨#[32,46,32]⟩++argR R 0 0).data.toList _;rw[zAp,zAp,zAp,zAp,zAp];exact tail _ _ word_tab
   ·show Pc (⟨#[115,117,109,32]⟩++name++⟨#[32,60,32]⟩++(ofR size)++⟨#[32,46,32]⟩++argR R 0 0).data.toList _;rw[zAp,zAp,zAp,zAp,zAp];exact tail _ _ word_sum
  ·show Pc (⟨#[105,102,32]⟩++argR R 0 1++⟨#[32,60,32]⟩++argR R 1 1++⟨#[32,116,104,101,110,32]⟩++argR R 2 0++⟨#[32,101,108,115,101,32]⟩++argR R 3 0).data.toList
    ((1,⟨#[105,102]⟩) :: (zBC T 0 1++sgTk 60 :: (zBC T 1 1++(1,⟨#[116,104,101,110]⟩) :: (zBC T 2 0++(1,⟨#[101,108,115,101]⟩) :: zBC T 3 0))))
   rw[zAp,zAp,zAp,zAp,zAp,zAp,zAp];have h1:=zC9 (zC6 word_if (arg 0 1 kD4)) (zDu zBI (zDu (zBy 60 kD7) zBI)) kD9;have h2:=zC9 (zC6 h1 (arg 1 1 kD4)) word_then kD9;have h3:=zC9 (zC6 h2 (arg 2 0 kD4)) word_else kD9;have h4:=zC6 h3 (arg 3 0 kD4);simpa using h4
  ·show Pc (⟨#[108,101,116,32]⟩++name++⟨#[32,61,32]⟩++argR R 0 0++⟨#[32,105,110,32]⟩++argR R 1 0).data.toList
    ((1,⟨#[108,101,116]⟩) :: (0,name) :: sgTk 61 :: (zBC T 0 0++(1,⟨#[105,110]⟩) :: zBC T 1 0))
   rw[zAp,zAp,zAp,zAp,zAp];have h1:=zC9 (zC6 word_let (pc_nm hn)) (zDu zBI (zDu (zBy 61 kD7) zBI)) kD9;have h2:=zC9 (zC6 h1 (arg 0 0 kD4)) word_in kD9;have h3:=zC6 h2 (arg 1 0 kD4);simpa using h3
  ·show Pc (name++⟨#[40]⟩++zAV (R.map fun p=>zCm p.1 0 p.2)++⟨#[41]⟩).data.toList ((0,name) :: sgTk 40 :: (zCd (T.map fun p=>zE5 p.1 0 p.2)++[sgTk 41]));rw[zAp,zAp,zAp];have:=(zC9 (zC6 (zC9 (pc_nm hn) (zBy 40 kD7) kD9) args) (zBy 41 kD7) kD9).pc;simpa using this
theorem tks_end (b:ByteArray):Tks b b.size=[]:=by
 rw[zCb b _ (kA2 _),kA9 (by unfold zAt;exact kCy.2 (kCR _ _))]
theorem toks_of {b:ByteArray} {l:List Tk} (h:Pc b.data.toList l):(zA9 b).map kt=l:=by
 have h1:=h b 0 (kAI _) (lies_all b) (fun hh=>by exfalso;rw[kAv] at hh;exact Nat.lt_irrefl _ hh);have e:b.data.toList.length=b.size:=rfl;rw[kAv,Tks_zero,e,tks_end] at h1;rw[h1];simp
theorem toks_open (x:S31) (h:OkX x):(zA9 (zAr x)).map kt=zAo x:=toks_of (pc_open _ x (kA2 _) h)
def levT (op:Int):Int:=if op=13∨op=12∨op=10∨op=11 then 0 else if op=3∨op=4 then 1 else if op=5∨op=6 then 2 else if op=2 then 1 else if op=7 then 3 else if op=9 then 4 else 5
theorem lev_same (op ls:Int) (h:ls≤4) (t:ByteArray):zCm (levR op) ls t=if levT op<ls then ⟨#[40]⟩++t++⟨#[41]⟩ else t:=by
 unfold zCm;have:levR op<ls↔levT op<ls:=by
  unfold levR levT
  repeat' split
  all_goals omega
 by_cases hc:levR op<ls
 ·rw[kAa hc,kAa (this.1 hc)]
 ·rw[kA9 hc,kA9 (fun h=>hc (this.2 h))]
theorem level_of (op : Int) : ∃ F, (F = 309 ∨ F = 99 ∨ F = 310 ∨ F = 311 ∨ F = 312) ∧ (∀ (v : Value) (w : World), (method 467 (zBz op) v "metewand/read.level").run Tryz.prog w = .ok (F, v) w) ∧
  ∀(b c d e f:Value) (w:World),Calls Tryz.prog F #[.agg #[.int .i64 op,b,c,d,e,f]] w fun en w'=>en=.returned (.int .i64 (levT op))∧Below w.heap.size w w':=by
 by_cases h0:op=13∨op=12∨op=10∨op=11
 ·have e:zBz op=150:=by unfold zBz;rw[kAa h0]
  rw[e];exact⟨309,kD6,m150,fun b c d e f w=>by have h:=lev150 (.int .i64 op) b c d e f w;unfold levT;rw[kAa h0];exact h⟩
 by_cases h1:op=3∨op=4∨op=5∨op=6
 ·have e:zBz op=152:=by unfold zBz;rw[kA9 h0,kAa h1]
  rw[e];refine⟨99,kD6,m152,fun b c d e f w=>?_⟩;have h:=lev152 op h1 b c d e f w;have e:levT op=if op=3∨op=4 then 1 else 2:=by rcases h1 with rfl | rfl | rfl | rfl<;>rfl
  rw[e];exact h
 by_cases h2:op=2
 ·subst h2;exact⟨310,kD6,m154,fun b c d e f w=>lev154 _ b c d e f w⟩
 by_cases h3:op=7∨op=9
 ·have e:zBz op=155:=by rcases h3 with rfl | rfl<;>rfl
  rw[e];refine⟨311,kD6,m155,fun b c d e f w=>?_⟩;have h:=lev155 op h3 b c d e f w;have e:levT op=if op=7 then 3 else 4:=by rcases h3 with rfl | rfl<;>rfl
  rw[e];exact h
 have e:zBz op=156:=by unfold zBz;rw[kA9 h0,kA9 h1,kA9 h2,kA9 h3]
 have e2:levT op=5:=by unfold levT;rw[kA9 h0,kA9 kD4,kA9 kD4,kA9 h2,kA9 kD4,kA9 kD4]
 rw[e,e2];exact⟨312,kD6,m156,fun b c d e f w=>lev156 _ b c d e f w⟩
theorem len4 {l:List S31} (h:l.length=4):∃y z t u,l=[y,z,t,u]:=by
 match l,h with
 | [y,z,t,u],_=>exact⟨y,z,t,u,rfl⟩
theorem joined2 (a b:ByteArray) (h:(a++b).size≤1000000000) (w:World) (bk:Nat) (hbk:bk=w.heap.size):Calls Tryz.prog 98 #[.slice (some ⟨bk,0,none⟩) 2 2] (w.alloc (.cells #[.string a,.string b] 9)) fun e w'=>e=.returned (.string (a++b))∧Below (w.alloc (.cells #[.string a,.string b] 9)).heap.size (w.alloc (.cells #[.string a,.string b] 9)) w':=by
 subst hbk;have hcat:cat [a,b]=a++b:=by simp only[zBL,zBK,← kAD]
 have hj:=zAQ w.heap.size [a,b] 9 _ (zA4 w _) kD6 kDl;rw[hcat] at hj;exact hj
theorem text58 (x:S31) (hx:nodeG x.f0 x.f1 x.f2 x.f3 x.f4.length) (hnum:x.f1.f0.size≤1000000∧x.f1.f1.size≤1000000∧x.f2.size≤1000000) (hsz:(zAr x).size≤900000000) (hr:∀y∈x.f4,zD5 y) (hrs:∀y∈x.f4,∀ls,(zA7 y ls).size≤900000000):zD5 x:=by
 intro v w least hls hv hT;obtain⟨A,c,rfl,hc1,hc2⟩:=hv.out;have hk:=zDN x A x.f4.length c;obtain⟨op,num,name,size,xs⟩:=x;simp only at *;obtain⟨F,hF,hm,hlv⟩:=level_of op;have hR:zA7 ⟨op,num,name,size,xs⟩ least=if levT op<least then ⟨#[40]⟩++zAr ⟨op,num,name,size,xs⟩++⟨#[41]⟩ else zAr ⟨op,num,name,size,xs⟩:=lev_same op least hls _
 obtain⟨r,hrr⟩:∃r,r=zAr ⟨op,num,name,size,xs⟩:=⟨_,rfl⟩;obtain⟨lv,hlvv⟩:∃lv,lv=levT op:=⟨_,rfl⟩;rw[← hrr,← hlvv] at hR;rw[← hlvv] at hlv;have hj:=joined3 ⟨#[40]⟩ r ⟨#[41]⟩ (by rw[hrr];simp only[kA6,ByteArray.size_mk',kAb,List.length_cons,List.length_nil];omega);have HK:=kA1 hk;have HV:=kA1 hv;have HT:=kA1 hT;have HRR:=kA1 hrr;have HR:=kA1 hR;have HRec:=kA1 hr;have HRS:=kA1 hrs;have HM:=kA1 hm;have HF:=kA1 hF;have HLV:=kA1 hlv;have HJ:=kA1 hj;have HC:=kA1 hc2;have HX:=kA1 hx;have HN:=kA1 hnum;have HSZ:=kA1 hsz;clear hr hrs hsz hv hc2 hrr hR hk hT hm hF hlv hj hx hnum hlvv;unfold exV at *;simp only at *;go_enter Tryz.func58,Tryz.ntmps58;go_wp2_with fail;refine (HK.out _).mono ?_;rintro e w1 ⟨rfl,hb1⟩;have hw1:=kA1 (((kA3 _ w).alloc (kA2 _) (.cells #[.int .i64 op,.string num.f0,.string num.f1,.string name,.int .i64 size,.slice A xs.length c] 31)).trans (hb1.mono kD6));clear hb1 HK
 go_upto_block 0 with (fail)
 go_cut [6] (fun v6 wc=>v6=.string r∧Hid (Below w.heap.size w wc))
 case first =>
  clear HM HLV HJ HR HF;have hX:=HX.out;clear HX;unfold nodeG at hX;rcases hX with⟨rfl,-,-,-,-,hn⟩ | ⟨rfl,-,-,-,hn⟩ | ⟨rfl,-,-,-,hn⟩ | ⟨ho,-,-,-,hn⟩ | ⟨rfl,-,-,⟨hz0,hz1⟩,hn⟩ | ⟨rfl,-,-,-,hn⟩ | ⟨ho,-,-,⟨hz0,hz1⟩,hn⟩ | ⟨rfl,-,-,-,hn⟩ | ⟨rfl,-,-,-,hn⟩ | ⟨rfl,-,-,-,hn⟩
  ·obtain rfl:xs=[]:=kAK hn;have hlen:([]:List S31).length=0:=rfl;rw[hlen] at *;have hb2:=hw1.out.alloc hw1.out.size (.cells #[.int .i64 0,.string num.f0,.string num.f1,.string name,.int .i64 size,.slice A 0 c] 156);have HW:=kA1 (fun W (hb:Below w.heap.size w W)=>(by rw[HRR.out];exact single0 num name size _ W (HV.out.below hb) HN.out.1 HN.out.2.1 HN.out.2.2:Calls Tryz.prog 101 #[exV ⟨0,num,name,size,[]⟩ (.slice A 0 c)] W fun e w'=>e=.returned (.string r)∧Below W.heap.size W w'));clear HRec HRS HV HT HC HRR HN HSZ;unfold exV at HW;simp only at HW;rw[show zBz 0=156 from rfl];have t0:=zDB;have t1:=zEx;have t2:=zEw;have t3:=zEv;have t4:=zEu;go_wp2_with fail;refine (HW.out _ hb2).mono ?_;rintro e w2 ⟨rfl,hb3⟩;go_wp2
   go_meet
   case rel=>exact⟨rfl,kA1 (hb2.trans (hb3.mono hb2.size))⟩
  ·obtain rfl:xs=[]:=kAK hn;have hlen:([]:List S31).length=0:=rfl;rw[hlen] at *;have hb2:=hw1.out.alloc hw1.out.size (.cells #[.int .i64 1,.string num.f0,.string num.f1,.string name,.int .i64 size,.slice A 0 c] 156);have HW:=kA1 (fun W (hb:Below w.heap.size w W)=>(by rw[HRR.out];exact single_ref num.f0 num.f1 name size (.slice A 0 c) W:Calls Tryz.prog 101 #[exV ⟨1,num,name,size,[]⟩ (.slice A 0 c)] W fun e w'=>e=.returned (.string r)∧Below W.heap.size W w'));clear HRec HRS HV HT HC HRR HN HSZ;unfold exV at HW;simp only at HW;rw[show zBz 1=156 from rfl];have t0:=zDB;have t1:=zEx;have t2:=zEw;have t3:=zEv;have t4:=zEu;go_wp2_with fail;refine (HW.out _ hb2).mono ?_;rintro e w2 ⟨rfl,hb3⟩;go_wp2
   go_meet
   case rel=>exact⟨rfl,kA1 (hb2.trans (hb3.mono hb2.size))⟩
  ·skip
   obtain⟨y,rfl⟩:∃y,xs=[y]:=by exact len1 hn
   simp only[List.length_cons,List.length_nil,kAv,Nat.reduceAdd] at *;rw[show zBz 2=154 from rfl];have t0:=ta154_150;have t1:=ta154_152;have t2:=ta154_154;have hb2:=hw1.out.alloc hw1.out.size (.cells #[.int .i64 2,.string num.f0,.string num.f1,.string name,.int .i64 size,.slice A 1 c] 154);obtain⟨ad,A5,c5,rfl,q0,q1,q2,q3,q4,q5,hvw⟩:=zAh (xs:=[y]) (Kd.C_below HC.out hb2) 0 kD6;simp only[List.getElem_cons_zero,kAZ,kAH] at q0 q1 q2 q3 q4 q5 hvw;have hbl:=zA4 w1 (.cells #[.int .i64 2,.string num.f0,.string num.f1,.string name,.int .i64 size,.slice (some ad) 1 c] 154);have e:zAr ⟨2,num,name,size,[y]⟩=⟨#[45]⟩++zA7 y 2:=rfl;have hs:=HRS.out y kD6 2;have H1:=kA1 (HRec.out y kD6 _ _ 2 kD7 hvw (HT.out.below hb2));have HE:=kA1 (HRR.out.trans e);have HB2:=kA1 hb2;clear HRec HRS HV HT HC HRR HN HSZ hw1 hb2 hvw e hbl;generalize zA7 y 2=t at *;have HJ2:=kA1 (fun W bk hbk=>joined2 ⟨#[45]⟩ t kDc W bk hbk);go_wp2_with fail;refine H1.out.mono ?_;rintro e w2 ⟨rfl,hb3⟩;have hb4:=HB2.out.trans (hb3.mono HB2.out.size);clear hb3;go_wp2_with fail;refine (HJ2.out w2 _ rfl).mono ?_;rintro e w3 ⟨rfl,hb5⟩;go_wp2
   go_meet
   case rel=>exact⟨by rw[HE.out],kA1 ((hb4.alloc hb4.size _).trans (hb5.mono (by simp only[kAw];have:=hb4.size;omega)))⟩
  ·rcases ho with rfl | rfl | rfl | rfl | rfl
   ·skip
    obtain⟨y,z,rfl⟩:∃y z,xs=[y,z]:=by exact len2 hn
    simp only[List.length_cons,List.length_nil,kAv,Nat.reduceAdd] at *;rw[show zBz 3=152 from rfl];have t0:=zDC;have t1:=zEy;have hb2:=hw1.out.alloc hw1.out.size (.cells #[.int .i64 3,.string num.f0,.string num.f1,.string name,.int .i64 size,.slice A 2 c] 152);obtain⟨ad,A5,c5,rfl,q0,q1,q2,q3,q4,q5,hvw⟩:=zAh (xs:=[y,z]) (Kd.C_below HC.out hb2) 0 kD6;simp only[List.getElem_cons_zero,kAZ,kAH] at q0 q1 q2 q3 q4 q5 hvw;have hbl:=zA4 w1 (.cells #[.int .i64 3,.string num.f0,.string num.f1,.string name,.int .i64 size,.slice (some ad) 2 c] 152);obtain⟨ad2,A7,c7,had,s0,s1,s2,s3,s4,s5,hvw2⟩:=zAh (xs:=[y,z]) (Kd.C_below HC.out hb2) 1 kD6;obtain rfl:ad=ad2:=by injection had
    simp only[List.getElem_cons_succ,List.getElem_cons_zero,kBA,kB5] at s0 s1 s2 s3 s4 s5 hvw2;have e:zAr ⟨3,num,name,size,[y,z]⟩=zA7 y 1++⟨#[32,43,32]⟩++zA7 z 2:=rfl;have hs1:=HRS.out y kD6 1;have hs2:=HRS.out z kD6 2;have H1:=kA1 (fun W (hv:Vw W y (exV y (.slice A5 y.f4.length c5))) (hb:Below w.heap.size w W)=>HRec.out y kD6 _ W 1 kD7 hv (HT.out.below hb));have H2:=kA1 (fun W (hv:Vw W z (exV z (.slice A7 z.f4.length c7))) (hb:Below w.heap.size w W)=>HRec.out z kD6 _ W 2 kD7 hv (HT.out.below hb));have HL:=kA1 (fun b c d e f W=>lev152 3 kD6 b c d e f W);have HE:=kA1 (HRR.out.trans e);have hsr:=HSZ.out;have HB2:=kA1 hb2;have hcat:cat [zA7 y 1,⟨#[32]⟩,Utf8.encode 43,⟨#[32]⟩,zA7 z 2]=r:=by rw[HE.out,show Utf8.encode 43=⟨#[43]⟩ from rfl];simp only[zBL,zBK,← kAD];simp only[kAD];rfl
    have hj:=fun W:World=>zAQ W.heap.size [zA7 y 1,⟨#[32]⟩,Utf8.encode 43,⟨#[32]⟩,zA7 z 2] 9 _ (zA4 W _) kD6 kDO
    rw[hcat] at hj;simp only[List.length_cons,List.length_nil,kAv,Nat.reduceAdd,kAh,kAr] at hj;have HJ:=kA1 hj;have hkl:∀a b:World,Below a.heap.size a b→(a.cell? ⟨w1.heap.size,0,none⟩=some (.int .i64 3)∧a.cell? ⟨w1.heap.size,1,none⟩=some (.string num.f0)∧a.cell? ⟨w1.heap.size,2,none⟩=some (.string num.f1)∧a.cell? ⟨w1.heap.size,3,none⟩=some (.string name)∧a.cell? ⟨w1.heap.size,4,none⟩=some (.int .i64 size)∧a.cell? ⟨w1.heap.size,5,none⟩=some (.slice (some ad) 2 c)∧a.cell? ad=some (.int .i64 y.f0)∧a.cell? ⟨ad.block,ad.off+1,none⟩=some (.string y.f1.f0)∧a.cell? ⟨ad.block,ad.off+2,none⟩=some (.string y.f1.f1)∧a.cell? ⟨ad.block,ad.off+3,none⟩=some (.string y.f2)∧a.cell? ⟨ad.block,ad.off+4,none⟩=some (.int .i64 y.f3)∧a.cell? ⟨ad.block,ad.off+5,none⟩=some (.slice A5 y.f4.length c5)∧a.cell? ⟨ad.block,ad.off+6,none⟩=some (.int .i64 z.f0)∧a.cell? ⟨ad.block,ad.off+6+1,none⟩=some (.string z.f1.f0)∧a.cell? ⟨ad.block,ad.off+6+2,none⟩=some (.string z.f1.f1)∧a.cell? ⟨ad.block,ad.off+6+3,none⟩=some (.string z.f2)∧a.cell? ⟨ad.block,ad.off+6+4,none⟩=some (.int .i64 z.f3)∧a.cell? ⟨ad.block,ad.off+6+5,none⟩=some (.slice A7 z.f4.length c7))→(b.cell? ⟨w1.heap.size,0,none⟩=some (.int .i64 3)∧b.cell? ⟨w1.heap.size,1,none⟩=some (.string num.f0)∧b.cell? ⟨w1.heap.size,2,none⟩=some (.string num.f1)∧b.cell? ⟨w1.heap.size,3,none⟩=some (.string name)∧b.cell? ⟨w1.heap.size,4,none⟩=some (.int .i64 size)∧b.cell? ⟨w1.heap.size,5,none⟩=some (.slice (some ad) 2 c)∧b.cell? ad=some (.int .i64 y.f0)∧b.cell? ⟨ad.block,ad.off+1,none⟩=some (.string y.f1.f0)∧b.cell? ⟨ad.block,ad.off+2,none⟩=some (.string y.f1.f1)∧b.cell? ⟨ad.block,ad.off+3,none⟩=some (.string y.f2)∧b.cell? ⟨ad.block,ad.off+4,none⟩=some (.int .i64 y.f3)∧b.cell? ⟨ad.block,ad.off+5,none⟩=some (.slice A5 y.f4.length c5)∧b.cell? ⟨ad.block,ad.off+6,none⟩=some (.int .i64 z.f0)∧b.cell? ⟨ad.block,ad.off+6+1,none⟩=some (.string z.f1.f0)∧b.cell? ⟨ad.block,ad.off+6+2,none⟩=some (.string z.f1.f1)∧b.cell? ⟨ad.block,ad.off+6+3,none⟩=some (.string z.f2)∧b.cell? ⟨ad.block,ad.off+6+4,none⟩=some (.int .i64 z.f3)∧b.cell? ⟨ad.block,ad.off+6+5,none⟩=some (.slice A7 z.f4.length c7)):=fun a b hb ⟨h0,h1,h2,h3,h4,h5,h6,h7,h8,h9,h10,h11,h12,h13,h14,h15,h16,h17⟩ =>
     ⟨zA0 hb h0,zA0 hb h1,zA0 hb h2,zA0 hb h3,zA0 hb h4,zA0 hb h5,zA0 hb h6,zA0 hb h7,zA0 hb h8,zA0 hb h9,zA0 hb h10,zA0 hb h11,zA0 hb h12,zA0 hb h13,zA0 hb h14,zA0 hb h15,zA0 hb h16,zA0 hb h17⟩
    have HKL:=kA1 hkl;obtain⟨⟨p0,p1,p2,p3,p4,p5⟩,_,xl⟩:=zA6 hbl;clear HRec HRS HV HT HC HRR HN HSZ hw1 e hj hcat hkl hs1 hs2 hsr hb2;generalize zA7 y 1=t1 at *;generalize zA7 z 2=t2 at *;go_wp2_with fail;rw[show ∀h,(⟨#[43,45,42,47]⟩:ByteArray)[0]'h=43 from fun _=>rfl];generalize hX:w1.alloc (.cells #[.int .i64 3,.string num.f0,.string num.f1,.string name,.int .i64 size,.slice (some ad) 2 c] 152)=X at *;have K:=HKL.out X X.drew (kA3 _ X).drew ⟨p0,p1,p2,p3,p4,p5,q0,q1,q2,q3,q4,q5,s0,s1,s2,s3,s4,s5⟩;have V1:=hvw.below (kA3 _ X).drew;have V2:=hvw2.below (kA3 _ X).drew;have BW:=HB2.out.drew;clear p0 p1 p2 p3 p4 p5 q0 q1 q2 q3 q4 q5 s0 s1 s2 s3 s4 s5 hvw hvw2 hbl xl
    go_region_held3 (fun w':World=>w'.cell? ⟨w1.heap.size,0,none⟩=some (.int .i64 3)∧w'.cell? ⟨w1.heap.size,1,none⟩=some (.string num.f0)∧w'.cell? ⟨w1.heap.size,2,none⟩=some (.string num.f1)∧w'.cell? ⟨w1.heap.size,3,none⟩=some (.string name)∧w'.cell? ⟨w1.heap.size,4,none⟩=some (.int .i64 size)∧w'.cell? ⟨w1.heap.size,5,none⟩=some (.slice (some ad) 2 c)∧w'.cell? ad=some (.int .i64 y.f0)∧w'.cell? ⟨ad.block,ad.off+1,none⟩=some (.string y.f1.f0)∧w'.cell? ⟨ad.block,ad.off+2,none⟩=some (.string y.f1.f1)∧w'.cell? ⟨ad.block,ad.off+3,none⟩=some (.string y.f2)∧w'.cell? ⟨ad.block,ad.off+4,none⟩=some (.int .i64 y.f3)∧w'.cell? ⟨ad.block,ad.off+5,none⟩=some (.slice A5 y.f4.length c5)∧w'.cell? ⟨ad.block,ad.off+6,none⟩=some (.int .i64 z.f0)∧w'.cell? ⟨ad.block,ad.off+6+1,none⟩=some (.string z.f1.f0)∧w'.cell? ⟨ad.block,ad.off+6+2,none⟩=some (.string z.f1.f1)∧w'.cell? ⟨ad.block,ad.off+6+3,none⟩=some (.string z.f2)∧w'.cell? ⟨ad.block,ad.off+6+4,none⟩=some (.int .i64 z.f3)∧w'.cell? ⟨ad.block,ad.off+6+5,none⟩=some (.slice A7 z.f4.length c7)) (first | exact K | exact HKL.out _ _ ((kA3 _ _).alloc (kA2 _) _) K) (first
     | (go_at_call 99;refine (HL.out _ _ _ _ _ _).mono ?_;rintro e wq ⟨rfl,hq⟩;have K:=HKL.out _ _ hq K;have V1:=V1.below hq;have V2:=V2.below hq;have BW:=BW.trans (hq.mono BW.size))
     | (go_at_call 58;refine (H1.out _ V1 BW).mono ?_;rintro e wq ⟨rfl,hq⟩;clear H1;have K:=HKL.out _ _ hq K;have V1:=V1.below hq;have V2:=V2.below hq;have BW:=BW.trans (hq.mono BW.size))
     | (go_at_call 58;refine (H2.out _ V2 BW).mono ?_;rintro e wq ⟨rfl,hq⟩;have K:=HKL.out _ _ hq K;have V1:=V1.below hq;have V2:=V2.below hq;have BW:=BW.trans (hq.mono BW.size))
     | (go_at_call 98;refine (HJ.out _).mono ?_;rintro e w3 ⟨rfl,hq⟩;have K:=HKL.out _ _ hq (HKL.out _ _ ((kA3 _ _).alloc (kA2 _) _) K);have BW:=(BW.alloc BW.size _).trans (hq.mono kDm)))
    all_goals
     go_wp2
     go_meet
     case rel=>exact⟨rfl,kA1 BW⟩
   ·skip
    obtain⟨y,z,rfl⟩:∃y z,xs=[y,z]:=by exact len2 hn
    simp only[List.length_cons,List.length_nil,kAv,Nat.reduceAdd] at *;rw[show zBz 4=152 from rfl];have t0:=zDC;have t1:=zEy;have hb2:=hw1.out.alloc hw1.out.size (.cells #[.int .i64 4,.string num.f0,.string num.f1,.string name,.int .i64 size,.slice A 2 c] 152);obtain⟨ad,A5,c5,rfl,q0,q1,q2,q3,q4,q5,hvw⟩:=zAh (xs:=[y,z]) (Kd.C_below HC.out hb2) 0 kD6;simp only[List.getElem_cons_zero,kAZ,kAH] at q0 q1 q2 q3 q4 q5 hvw;have hbl:=zA4 w1 (.cells #[.int .i64 4,.string num.f0,.string num.f1,.string name,.int .i64 size,.slice (some ad) 2 c] 152);obtain⟨ad2,A7,c7,had,s0,s1,s2,s3,s4,s5,hvw2⟩:=zAh (xs:=[y,z]) (Kd.C_below HC.out hb2) 1 kD6;obtain rfl:ad=ad2:=by injection had
    simp only[List.getElem_cons_succ,List.getElem_cons_zero,kBA,kB5] at s0 s1 s2 s3 s4 s5 hvw2;have e:zAr ⟨4,num,name,size,[y,z]⟩=zA7 y 1++⟨#[32,45,32]⟩++zA7 z 2:=rfl;have hs1:=HRS.out y kD6 1;have hs2:=HRS.out z kD6 2;have H1:=kA1 (fun W (hv:Vw W y (exV y (.slice A5 y.f4.length c5))) (hb:Below w.heap.size w W)=>HRec.out y kD6 _ W 1 kD7 hv (HT.out.below hb));have H2:=kA1 (fun W (hv:Vw W z (exV z (.slice A7 z.f4.length c7))) (hb:Below w.heap.size w W)=>HRec.out z kD6 _ W 2 kD7 hv (HT.out.below hb));have HL:=kA1 (fun b c d e f W=>lev152 4 kD6 b c d e f W);have HE:=kA1 (HRR.out.trans e);have hsr:=HSZ.out;have HB2:=kA1 hb2;have hcat:cat [zA7 y 1,⟨#[32]⟩,Utf8.encode 45,⟨#[32]⟩,zA7 z 2]=r:=by rw[HE.out,show Utf8.encode 45=⟨#[45]⟩ from rfl];simp only[zBL,zBK,← kAD];simp only[kAD];rfl
    have hj:=fun W:World=>zAQ W.heap.size [zA7 y 1,⟨#[32]⟩,Utf8.encode 45,⟨#[32]⟩,zA7 z 2] 9 _ (zA4 W _) kD6 kDO
    rw[hcat] at hj;simp only[List.length_cons,List.length_nil,kAv,Nat.reduceAdd,kAh,kAr] at hj;have HJ:=kA1 hj;have hkl:∀a b:World,Below a.heap.size a b→(a.cell? ⟨w1.heap.size,0,none⟩=some (.int .i64 4)∧a.cell? ⟨w1.heap.size,1,none⟩=some (.string num.f0)∧a.cell? ⟨w1.heap.size,2,none⟩=some (.string num.f1)∧a.cell? ⟨w1.heap.size,3,none⟩=some (.string name)∧a.cell? ⟨w1.heap.size,4,none⟩=some (.int .i64 size)∧a.cell? ⟨w1.heap.size,5,none⟩=some (.slice (some ad) 2 c)∧a.cell? ad=some (.int .i64 y.f0)∧a.cell? ⟨ad.block,ad.off+1,none⟩=some (.string y.f1.f0)∧a.cell? ⟨ad.block,ad.off+2,none⟩=some (.string y.f1.f1)∧a.cell? ⟨ad.block,ad.off+3,none⟩=some (.string y.f2)∧a.cell? ⟨ad.block,ad.off+4,none⟩=some (.int .i64 y.f3)∧a.cell? ⟨ad.block,ad.off+5,none⟩=some (.slice A5 y.f4.length c5)∧a.cell? ⟨ad.block,ad.off+6,none⟩=some (.int .i64 z.f0)∧a.cell? ⟨ad.block,ad.off+6+1,none⟩=some (.string z.f1.f0)∧a.cell? ⟨ad.block,ad.off+6+2,none⟩=some (.string z.f1.f1)∧a.cell? ⟨ad.block,ad.off+6+3,none⟩=some (.string z.f2)∧a.cell? ⟨ad.block,ad.off+6+4,none⟩=some (.int .i64 z.f3)∧a.cell? ⟨ad.block,ad.off+6+5,none⟩=some (.slice A7 z.f4.length c7))→(b.cell? ⟨w1.heap.size,0,none⟩=some (.int .i64 4)∧b.cell? ⟨w1.heap.size,1,none⟩=some (.string num.f0)∧b.cell? ⟨w1.heap.size,2,none⟩=some (.string num.f1)∧b.cell? ⟨w1.heap.size,3,none⟩=some (.string name)∧b.cell? ⟨w1.heap.size,4,none⟩=some (.int .i64 size)∧b.cell? ⟨w1.heap.size,5,none⟩=some (.slice (some ad) 2 c)∧b.cell? ad=some (.int .i64 y.f0)∧b.cell? ⟨ad.block,ad.off+1,none⟩=some (.string y.f1.f0)∧b.cell? ⟨ad.block,ad.off+2,none⟩=some (.string y.f1.f1)∧b.cell? ⟨ad.block,ad.off+3,none⟩=some (.string y.f2)∧b.cell? ⟨ad.block,ad.off+4,none⟩=some (.int .i64 y.f3)∧b.cell? ⟨ad.block,ad.off+5,none⟩=some (.slice A5 y.f4.length c5)∧b.cell? ⟨ad.block,ad.off+6,none⟩=some (.int .i64 z.f0)∧b.cell? ⟨ad.block,ad.off+6+1,none⟩=some (.string z.f1.f0)∧b.cell? ⟨ad.block,ad.off+6+2,none⟩=some (.string z.f1.f1)∧b.cell? ⟨ad.block,ad.off+6+3,none⟩=some (.string z.f2)∧b.cell? ⟨ad.block,ad.off+6+4,none⟩=some (.int .i64 z.f3)∧b.cell? ⟨ad.block,ad.off+6+5,none⟩=some (.slice A7 z.f4.length c7)):=fun a b hb ⟨h0,h1,h2,h3,h4,h5,h6,h7,h8,h9,h10,h11,h12,h13,h14,h15,h16,h17⟩ =>
     ⟨zA0 hb h0,zA0 hb h1,zA0 hb h2,zA0 hb h3,zA0 hb h4,zA0 hb h5,zA0 hb h6,zA0 hb h7,zA0 hb h8,zA0 hb h9,zA0 hb h10,zA0 hb h11,zA0 hb h12,zA0 hb h13,zA0 hb h14,zA0 hb h15,zA0 hb h16,zA0 hb h17⟩
    have HKL:=kA1 hkl;obtain⟨⟨p0,p1,p2,p3,p4,p5⟩,_,xl⟩:=zA6 hbl;clear HRec HRS HV HT HC HRR HN HSZ hw1 e hj hcat hkl hs1 hs2 hsr hb2;generalize zA7 y 1=t1 at *;generalize zA7 z 2=t2 at *;go_wp2_with fail;rw[show ∀h,(⟨#[43,45,42,47]⟩:ByteArray)[1]'h=45 from fun _=>rfl];generalize hX:w1.alloc (.cells #[.int .i64 4,.string num.f0,.string num.f1,.string name,.int .i64 size,.slice (some ad) 2 c] 152)=X at *;have K:=HKL.out X X.drew (kA3 _ X).drew ⟨p0,p1,p2,p3,p4,p5,q0,q1,q2,q3,q4,q5,s0,s1,s2,s3,s4,s5⟩;have V1:=hvw.below (kA3 _ X).drew;have V2:=hvw2.below (kA3 _ X).drew;have BW:=HB2.out.drew;clear p0 p1 p2 p3 p4 p5 q0 q1 q2 q3 q4 q5 s0 s1 s2 s3 s4 s5 hvw hvw2 hbl xl
    go_region_held3 (fun w':World=>w'.cell? ⟨w1.heap.size,0,none⟩=some (.int .i64 4)∧w'.cell? ⟨w1.heap.size,1,none⟩=some (.string num.f0)∧w'.cell? ⟨w1.heap.size,2,none⟩=some (.string num.f1)∧w'.cell? ⟨w1.heap.size,3,none⟩=some (.string name)∧w'.cell? ⟨w1.heap.size,4,none⟩=some (.int .i64 size)∧w'.cell? ⟨w1.heap.size,5,none⟩=some (.slice (some ad) 2 c)∧w'.cell? ad=some (.int .i64 y.f0)∧w'.cell? ⟨ad.block,ad.off+1,none⟩=some (.string y.f1.f0)∧w'.cell? ⟨ad.block,ad.off+2,none⟩=some (.string y.f1.f1)∧w'.cell? ⟨ad.block,ad.off+3,none⟩=some (.string y.f2)∧w'.cell? ⟨ad.block,ad.off+4,none⟩=some (.int .i64 y.f3)∧w'.cell? ⟨ad.block,ad.off+5,none⟩=some (.slice A5 y.f4.length c5)∧w'.cell? ⟨ad.block,ad.off+6,none⟩=some (.int .i64 z.f0)∧w'.cell? ⟨ad.block,ad.off+6+1,none⟩=some (.string z.f1.f0)∧w'.cell? ⟨ad.block,ad.off+6+2,none⟩=some (.string z.f1.f1)∧w'.cell? ⟨ad.block,ad.off+6+3,none⟩=some (.string z.f2)∧w'.cell? ⟨ad.block,ad.off+6+4,none⟩=some (.int .i64 z.f3)∧w'.cell? ⟨ad.block,ad.off+6+5,none⟩=some (.slice A7 z.f4.length c7)) (first | exact K | exact HKL.out _ _ ((kA3 _ _).alloc (kA2 _) _) K) (first
     | (go_at_call 99;refine (HL.out _ _ _ _ _ _).mono ?_;rintro e wq ⟨rfl,hq⟩;have K:=HKL.out _ _ hq K;have V1:=V1.below hq;have V2:=V2.below hq;have BW:=BW.trans (hq.mono BW.size))
     | (go_at_call 58;refine (H1.out _ V1 BW).mono ?_;rintro e wq ⟨rfl,hq⟩;clear H1;have K:=HKL.out _ _ hq K;have V1:=V1.below hq;have V2:=V2.below hq;have BW:=BW.trans (hq.mono BW.size))
     | (go_at_call 58;refine (H2.out _ V2 BW).mono ?_;rintro e wq ⟨rfl,hq⟩;have K:=HKL.out _ _ hq K;have V1:=V1.below hq;have V2:=V2.below hq;have BW:=BW.trans (hq.mono BW.size))
     | (go_at_call 98;refine (HJ.out _).mono ?_;rintro e w3 ⟨rfl,hq⟩;have K:=HKL.out _ _ hq (HKL.out _ _ ((kA3 _ _).alloc (kA2 _) _) K);have BW:=(BW.alloc BW.size _).trans (hq.mono kDm)))
    all_goals
     go_wp2
     go_meet
     case rel=>exact⟨rfl,kA1 BW⟩
   ·skip
    obtain⟨y,z,rfl⟩:∃y z,xs=[y,z]:=by exact len2 hn
    simp only[List.length_cons,List.length_nil,kAv,Nat.reduceAdd] at *;rw[show zBz 5=152 from rfl];have t0:=zDC;have t1:=zEy;have hb2:=hw1.out.alloc hw1.out.size (.cells #[.int .i64 5,.string num.f0,.string num.f1,.string name,.int .i64 size,.slice A 2 c] 152);obtain⟨ad,A5,c5,rfl,q0,q1,q2,q3,q4,q5,hvw⟩:=zAh (xs:=[y,z]) (Kd.C_below HC.out hb2) 0 kD6;simp only[List.getElem_cons_zero,kAZ,kAH] at q0 q1 q2 q3 q4 q5 hvw;have hbl:=zA4 w1 (.cells #[.int .i64 5,.string num.f0,.string num.f1,.string name,.int .i64 size,.slice (some ad) 2 c] 152);obtain⟨ad2,A7,c7,had,s0,s1,s2,s3,s4,s5,hvw2⟩:=zAh (xs:=[y,z]) (Kd.C_below HC.out hb2) 1 kD6;obtain rfl:ad=ad2:=by injection had
    simp only[List.getElem_cons_succ,List.getElem_cons_zero,kBA,kB5] at s0 s1 s2 s3 s4 s5 hvw2;have e:zAr ⟨5,num,name,size,[y,z]⟩=zA7 y 2++⟨#[32,42,32]⟩++zA7 z 3:=rfl;have hs1:=HRS.out y kD6 2;have hs2:=HRS.out z kD6 3;have H1:=kA1 (fun W (hv:Vw W y (exV y (.slice A5 y.f4.length c5))) (hb:Below w.heap.size w W)=>HRec.out y kD6 _ W 2 kD7 hv (HT.out.below hb));have H2:=kA1 (fun W (hv:Vw W z (exV z (.slice A7 z.f4.length c7))) (hb:Below w.heap.size w W)=>HRec.out z kD6 _ W 3 kD7 hv (HT.out.below hb));have HL:=kA1 (fun b c d e f W=>lev152 5 kD6 b c d e f W);have HE:=kA1 (HRR.out.trans e);have hsr:=HSZ.out;have HB2:=kA1 hb2;have hcat:cat [zA7 y 2,⟨#[32]⟩,Utf8.encode 42,⟨#[32]⟩,zA7 z 3]=r:=by rw[HE.out,show Utf8.encode 42=⟨#[42]⟩ from rfl];simp only[zBL,zBK,← kAD];simp only[kAD];rfl
    have hj:=fun W:World=>zAQ W.heap.size [zA7 y 2,⟨#[32]⟩,Utf8.encode 42,⟨#[32]⟩,zA7 z 3] 9 _ (zA4 W _) kD6 kDO
    rw[hcat] at hj;simp only[List.length_cons,List.length_nil,kAv,Nat.reduceAdd,kAh,kAr] at hj;have HJ:=kA1 hj;have hkl:∀a b:World,Below a.heap.size a b→(a.cell? ⟨w1.heap.size,0,none⟩=some (.int .i64 5)∧a.cell? ⟨w1.heap.size,1,none⟩=some (.string num.f0)∧a.cell? ⟨w1.heap.size,2,none⟩=some (.string num.f1)∧a.cell? ⟨w1.heap.size,3,none⟩=some (.string name)∧a.cell? ⟨w1.heap.size,4,none⟩=some (.int .i64 size)∧a.cell? ⟨w1.heap.size,5,none⟩=some (.slice (some ad) 2 c)∧a.cell? ad=some (.int .i64 y.f0)∧a.cell? ⟨ad.block,ad.off+1,none⟩=some (.string y.f1.f0)∧a.cell? ⟨ad.block,ad.off+2,none⟩=some (.string y.f1.f1)∧a.cell? ⟨ad.block,ad.off+3,none⟩=some (.string y.f2)∧a.cell? ⟨ad.block,ad.off+4,none⟩=some (.int .i64 y.f3)∧a.cell? ⟨ad.block,ad.off+5,none⟩=some (.slice A5 y.f4.length c5)∧a.cell? ⟨ad.block,ad.off+6,none⟩=some (.int .i64 z.f0)∧a.cell? ⟨ad.block,ad.off+6+1,none⟩=some (.string z.f1.f0)∧a.cell? ⟨ad.block,ad.off+6+2,none⟩=some (.string z.f1.f1)∧a.cell? ⟨ad.block,ad.off+6+3,none⟩=some (.string z.f2)∧a.cell? ⟨ad.block,ad.off+6+4,none⟩=some (.int .i64 z.f3)∧a.cell? ⟨ad.block,ad.off+6+5,none⟩=some (.slice A7 z.f4.length c7))→(b.cell? ⟨w1.heap.size,0,none⟩=some (.int .i64 5)∧b.cell? ⟨w1.heap.size,1,none⟩=some (.string num.f0)∧b.cell? ⟨w1.heap.size,2,none⟩=some (.string num.f1)∧b.cell? ⟨w1.heap.size,3,none⟩=some (.string name)∧b.cell? ⟨w1.heap.size,4,none⟩=some (.int .i64 size)∧b.cell? ⟨w1.heap.size,5,none⟩=some (.slice (some ad) 2 c)∧b.cell? ad=some (.int .i64 y.f0)∧b.cell? ⟨ad.block,ad.off+1,none⟩=some (.string y.f1.f0)∧b.cell? ⟨ad.block,ad.off+2,none⟩=some (.string y.f1.f1)∧b.cell? ⟨ad.block,ad.off+3,none⟩=some (.string y.f2)∧b.cell? ⟨ad.block,ad.off+4,none⟩=some (.int .i64 y.f3)∧b.cell? ⟨ad.block,ad.off+5,none⟩=some (.slice A5 y.f4.length c5)∧b.cell? ⟨ad.block,ad.off+6,none⟩=some (.int .i64 z.f0)∧b.cell? ⟨ad.block,ad.off+6+1,none⟩=some (.string z.f1.f0)∧b.cell? ⟨ad.block,ad.off+6+2,none⟩=some (.string z.f1.f1)∧b.cell? ⟨ad.block,ad.off+6+3,none⟩=some (.string z.f2)∧b.cell? ⟨ad.block,ad.off+6+4,none⟩=some (.int .i64 z.f3)∧b.cell? ⟨ad.block,ad.off+6+5,none⟩=some (.slice A7 z.f4.length c7)):=fun a b hb ⟨h0,h1,h2,h3,h4,h5,h6,h7,h8,h9,h10,h11,h12,h13,h14,h15,h16,h17⟩ =>
     ⟨zA0 hb h0,zA0 hb h1,zA0 hb h2,zA0 hb h3,zA0 hb h4,zA0 hb h5,zA0 hb h6,zA0 hb h7,zA0 hb h8,zA0 hb h9,zA0 hb h10,zA0 hb h11,zA0 hb h12,zA0 hb h13,zA0 hb h14,zA0 hb h15,zA0 hb h16,zA0 hb h17⟩
    have HKL:=kA1 hkl;obtain⟨⟨p0,p1,p2,p3,p4,p5⟩,_,xl⟩:=zA6 hbl;clear HRec HRS HV HT HC HRR HN HSZ hw1 e hj hcat hkl hs1 hs2 hsr hb2;generalize zA7 y 2=t1 at *;generalize zA7 z 3=t2 at *;go_wp2_with fail;rw[show ∀h,(⟨#[43,45,42,47]⟩:ByteArray)[2]'h=42 from fun _=>rfl];generalize hX:w1.alloc (.cells #[.int .i64 5,.string num.f0,.string num.f1,.string name,.int .i64 size,.slice (some ad) 2 c] 152)=X at *;have K:=HKL.out X X.drew (kA3 _ X).drew ⟨p0,p1,p2,p3,p4,p5,q0,q1,q2,q3,q4,q5,s0,s1,s2,s3,s4,s5⟩;have V1:=hvw.below (kA3 _ X).drew;have V2:=hvw2.below (kA3 _ X).drew;have BW:=HB2.out.drew;clear p0 p1 p2 p3 p4 p5 q0 q1 q2 q3 q4 q5 s0 s1 s2 s3 s4 s5 hvw hvw2 hbl xl
    go_region_held3 (fun w':World=>w'.cell? ⟨w1.heap.size,0,none⟩=some (.int .i64 5)∧w'.cell? ⟨w1.heap.size,1,none⟩=some (.string num.f0)∧w'.cell? ⟨w1.heap.size,2,none⟩=some (.string num.f1)∧w'.cell? ⟨w1.heap.size,3,none⟩=some (.string name)∧w'.cell? ⟨w1.heap.size,4,none⟩=some (.int .i64 size)∧w'.cell? ⟨w1.heap.size,5,none⟩=some (.slice (some ad) 2 c)∧w'.cell? ad=some (.int .i64 y.f0)∧w'.cell? ⟨ad.block,ad.off+1,none⟩=some (.string y.f1.f0)∧w'.cell? ⟨ad.block,ad.off+2,none⟩=some (.string y.f1.f1)∧w'.cell? ⟨ad.block,ad.off+3,none⟩=some (.string y.f2)∧w'.cell? ⟨ad.block,ad.off+4,none⟩=some (.int .i64 y.f3)∧w'.cell? ⟨ad.block,ad.off+5,none⟩=some (.slice A5 y.f4.length c5)∧w'.cell? ⟨ad.block,ad.off+6,none⟩=some (.int .i64 z.f0)∧w'.cell? ⟨ad.block,ad.off+6+1,none⟩=some (.string z.f1.f0)∧w'.cell? ⟨ad.block,ad.off+6+2,none⟩=some (.string z.f1.f1)∧w'.cell? ⟨ad.block,ad.off+6+3,none⟩=some (.string z.f2)∧w'.cell? ⟨ad.block,ad.off+6+4,none⟩=some (.int .i64 z.f3)∧w'.cell? ⟨ad.block,ad.off+6+5,none⟩=some (.slice A7 z.f4.length c7)) (first | exact K | exact HKL.out _ _ ((kA3 _ _).alloc (kA2 _) _) K) (first
     | (go_at_call 99;refine (HL.out _ _ _ _ _ _).mono ?_;rintro e wq ⟨rfl,hq⟩;have K:=HKL.out _ _ hq K;have V1:=V1.below hq;have V2:=V2.below hq;have BW:=BW.trans (hq.mono BW.size))
     | (go_at_call 58;refine (H1.out _ V1 BW).mono ?_;rintro e wq ⟨rfl,hq⟩;clear H1;have K:=HKL.out _ _ hq K;have V1:=V1.below hq;have V2:=V2.below hq;have BW:=BW.trans (hq.mono BW.size))
     | (go_at_call 58;refine (H2.out _ V2 BW).mono ?_;rintro e wq ⟨rfl,hq⟩;have K:=HKL.out _ _ hq K;have V1:=V1.below hq;have V2:=V2.below hq;have BW:=BW.trans (hq.mono BW.size))
     | (go_at_call 98;refine (HJ.out _).mono ?_;rintro e w3 ⟨rfl,hq⟩;have K:=HKL.out _ _ hq (HKL.out _ _ ((kA3 _ _).alloc (kA2 _) _) K);have BW:=(BW.alloc BW.size _).trans (hq.mono kDm)))
    all_goals
     go_wp2
     go_meet
     case rel=>exact⟨rfl,kA1 BW⟩
   ·skip
    obtain⟨y,z,rfl⟩:∃y z,xs=[y,z]:=by exact len2 hn
    simp only[List.length_cons,List.length_nil,kAv,Nat.reduceAdd] at *;rw[show zBz 6=152 from rfl];have t0:=zDC;have t1:=zEy;have hb2:=hw1.out.alloc hw1.out.size (.cells #[.int .i64 6,.string num.f0,.string num.f1,.string name,.int .i64 size,.slice A 2 c] 152);obtain⟨ad,A5,c5,rfl,q0,q1,q2,q3,q4,q5,hvw⟩:=zAh (xs:=[y,z]) (Kd.C_below HC.out hb2) 0 kD6;simp only[List.getElem_cons_zero,kAZ,kAH] at q0 q1 q2 q3 q4 q5 hvw;have hbl:=zA4 w1 (.cells #[.int .i64 6,.string num.f0,.string num.f1,.string name,.int .i64 size,.slice (some ad) 2 c] 152);obtain⟨ad2,A7,c7,had,s0,s1,s2,s3,s4,s5,hvw2⟩:=zAh (xs:=[y,z]) (Kd.C_below HC.out hb2) 1 kD6;obtain rfl:ad=ad2:=by injection had
    simp only[List.getElem_cons_succ,List.getElem_cons_zero,kBA,kB5] at s0 s1 s2 s3 s4 s5 hvw2;have e:zAr ⟨6,num,name,size,[y,z]⟩=zA7 y 2++⟨#[32,47,32]⟩++zA7 z 3:=rfl;have hs1:=HRS.out y kD6 2;have hs2:=HRS.out z kD6 3;have H1:=kA1 (fun W (hv:Vw W y (exV y (.slice A5 y.f4.length c5))) (hb:Below w.heap.size w W)=>HRec.out y kD6 _ W 2 kD7 hv (HT.out.below hb));have H2:=kA1 (fun W (hv:Vw W z (exV z (.slice A7 z.f4.length c7))) (hb:Below w.heap.size w W)=>HRec.out z kD6 _ W 3 kD7 hv (HT.out.below hb));have HL:=kA1 (fun b c d e f W=>lev152 6 kD6 b c d e f W);have HE:=kA1 (HRR.out.trans e);have hsr:=HSZ.out;have HB2:=kA1 hb2;have hcat:cat [zA7 y 2,⟨#[32]⟩,Utf8.encode 47,⟨#[32]⟩,zA7 z 3]=r:=by rw[HE.out,show Utf8.encode 47=⟨#[47]⟩ from rfl];simp only[zBL,zBK,← kAD];simp only[kAD];rfl
    have hj:=fun W:World=>zAQ W.heap.size [zA7 y 2,⟨#[32]⟩,Utf8.encode 47,⟨#[32]⟩,zA7 z 3] 9 _ (zA4 W _) kD6 kDO
    rw[hcat] at hj;simp only[List.length_cons,List.length_nil,kAv,Nat.reduceAdd,kAh,kAr] at hj;have HJ:=kA1 hj;have hkl:∀a b:World,Below a.heap.size a b→(a.cell? ⟨w1.heap.size,0,none⟩=some (.int .i64 6)∧a.cell? ⟨w1.heap.size,1,none⟩=some (.string num.f0)∧a.cell? ⟨w1.heap.size,2,none⟩=some (.string num.f1)∧a.cell? ⟨w1.heap.size,3,none⟩=some (.string name)∧a.cell? ⟨w1.heap.size,4,none⟩=some (.int .i64 size)∧a.cell? ⟨w1.heap.size,5,none⟩=some (.slice (some ad) 2 c)∧a.cell? ad=some (.int .i64 y.f0)∧a.cell? ⟨ad.block,ad.off+1,none⟩=some (.string y.f1.f0)∧a.cell? ⟨ad.block,ad.off+2,none⟩=some (.string y.f1.f1)∧a.cell? ⟨ad.block,ad.off+3,none⟩=some (.string y.f2)∧a.cell? ⟨ad.block,ad.off+4,none⟩=some (.int .i64 y.f3)∧a.cell? ⟨ad.block,ad.off+5,none⟩=some (.slice A5 y.f4.length c5)∧a.cell? ⟨ad.block,ad.off+6,none⟩=some (.int .i64 z.f0)∧a.cell? ⟨ad.block,ad.off+6+1,none⟩=some (.string z.f1.f0)∧a.cell? ⟨ad.block,ad.off+6+2,none⟩=some (.string z.f1.f1)∧a.cell? ⟨ad.block,ad.off+6+3,none⟩=some (.string z.f2)∧a.cell? ⟨ad.block,ad.off+6+4,none⟩=some (.int .i64 z.f3)∧a.cell? ⟨ad.block,ad.off+6+5,none⟩=some (.slice A7 z.f4.length c7))→(b.cell? ⟨w1.heap.size,0,none⟩=some (.int .i64 6)∧b.cell? ⟨w1.heap.size,1,none⟩=some (.string num.f0)∧b.cell? ⟨w1.heap.size,2,none⟩=some (.string num.f1)∧b.cell? ⟨w1.heap.size,3,none⟩=some (.string name)∧b.cell? ⟨w1.heap.size,4,none⟩=some (.int .i64 size)∧b.cell? ⟨w1.heap.size,5,none⟩=some (.slice (some ad) 2 c)∧b.cell? ad=some (.int .i64 y.f0)∧b.cell? ⟨ad.block,ad.off+1,none⟩=some (.string y.f1.f0)∧b.cell? ⟨ad.block,ad.off+2,none⟩=some (.string y.f1.f1)∧b.cell? ⟨ad.block,ad.off+3,none⟩=some (.string y.f2)∧b.cell? ⟨ad.block,ad.off+4,none⟩=some (.int .i64 y.f3)∧b.cell? ⟨ad.block,ad.off+5,none⟩=some (.slice A5 y.f4.length c5)∧b.cell? ⟨ad.block,ad.off+6,none⟩=some (.int .i64 z.f0)∧b.cell? ⟨ad.block,ad.off+6+1,none⟩=some (.string z.f1.f0)∧b.cell? ⟨ad.block,ad.off+6+2,none⟩=some (.string z.f1.f1)∧b.cell? ⟨ad.block,ad.off+6+3,none⟩=some (.string z.f2)∧b.cell? ⟨ad.block,ad.off+6+4,none⟩=some (.int .i64 z.f3)∧b.cell? ⟨ad.block,ad.off+6+5,none⟩=some (.slice A7 z.f4.length c7)):=fun a b hb ⟨h0,h1,h2,h3,h4,h5,h6,h7,h8,h9,h10,h11,h12,h13,h14,h15,h16,h17⟩ =>
     ⟨zA0 hb h0,zA0 hb h1,zA0 hb h2,zA0 hb h3,zA0 hb h4,zA0 hb h5,zA0 hb h6,zA0 hb h7,zA0 hb h8,zA0 hb h9,zA0 hb h10,zA0 hb h11,zA0 hb h12,zA0 hb h13,zA0 hb h14,zA0 hb h15,zA0 hb h16,zA0 hb h17⟩
    have HKL:=kA1 hkl;obtain⟨⟨p0,p1,p2,p3,p4,p5⟩,_,xl⟩:=zA6 hbl;clear HRec HRS HV HT HC HRR HN HSZ hw1 e hj hcat hkl hs1 hs2 hsr hb2;generalize zA7 y 2=t1 at *;generalize zA7 z 3=t2 at *;go_wp2_with fail;rw[show ∀h,(⟨#[43,45,42,47]⟩:ByteArray)[3]'h=47 from fun _=>rfl];generalize hX:w1.alloc (.cells #[.int .i64 6,.string num.f0,.string num.f1,.string name,.int .i64 size,.slice (some ad) 2 c] 152)=X at *;have K:=HKL.out X X.drew (kA3 _ X).drew ⟨p0,p1,p2,p3,p4,p5,q0,q1,q2,q3,q4,q5,s0,s1,s2,s3,s4,s5⟩;have V1:=hvw.below (kA3 _ X).drew;have V2:=hvw2.below (kA3 _ X).drew;have BW:=HB2.out.drew;clear p0 p1 p2 p3 p4 p5 q0 q1 q2 q3 q4 q5 s0 s1 s2 s3 s4 s5 hvw hvw2 hbl xl
    go_region_held3 (fun w':World=>w'.cell? ⟨w1.heap.size,0,none⟩=some (.int .i64 6)∧w'.cell? ⟨w1.heap.size,1,none⟩=some (.string num.f0)∧w'.cell? ⟨w1.heap.size,2,none⟩=some (.string num.f1)∧w'.cell? ⟨w1.heap.size,3,none⟩=some (.string name)∧w'.cell? ⟨w1.heap.size,4,none⟩=some (.int .i64 size)∧w'.cell? ⟨w1.heap.size,5,none⟩=some (.slice (some ad) 2 c)∧w'.cell? ad=some (.int .i64 y.f0)∧w'.cell? ⟨ad.block,ad.off+1,none⟩=some (.string y.f1.f0)∧w'.cell? ⟨ad.block,ad.off+2,none⟩=some (.string y.f1.f1)∧w'.cell? ⟨ad.block,ad.off+3,none⟩=some (.string y.f2)∧w'.cell? ⟨ad.block,ad.off+4,none⟩=some (.int .i64 y.f3)∧w'.cell? ⟨ad.block,ad.off+5,none⟩=some (.slice A5 y.f4.length c5)∧w'.cell? ⟨ad.block,ad.off+6,none⟩=some (.int .i64 z.f0)∧w'.cell? ⟨ad.block,ad.off+6+1,none⟩=some (.string z.f1.f0)∧w'.cell? ⟨ad.block,ad.off+6+2,none⟩=some (.string z.f1.f1)∧w'.cell? ⟨ad.block,ad.off+6+3,none⟩=some (.string z.f2)∧w'.cell? ⟨ad.block,ad.off+6+4,none⟩=some (.int .i64 z.f3)∧w'.cell? ⟨ad.block,ad.off+6+5,none⟩=some (.slice A7 z.f4.length c7)) (first | exact K | exact HKL.out _ _ ((kA3 _ _).alloc (kA2 _) _) K) (first
     | (go_at_call 99;refine (HL.out _ _ _ _ _ _).mono ?_;rintro e wq ⟨rfl,hq⟩;have K:=HKL.out _ _ hq K;have V1:=V1.below hq;have V2:=V2.below hq;have BW:=BW.trans (hq.mono BW.size))
     | (go_at_call 58;refine (H1.out _ V1 BW).mono ?_;rintro e wq ⟨rfl,hq⟩;clear H1;have K:=HKL.out _ _ hq K;have V1:=V1.below hq;have V2:=V2.below hq;have BW:=BW.trans (hq.mono BW.size))
     | (go_at_call 58;refine (H2.out _ V2 BW).mono ?_;rintro e wq ⟨rfl,hq⟩;have K:=HKL.out _ _ hq K;have V1:=V1.below hq;have V2:=V2.below hq;have BW:=BW.trans (hq.mono BW.size))
     | (go_at_call 98;refine (HJ.out _).mono ?_;rintro e w3 ⟨rfl,hq⟩;have K:=HKL.out _ _ hq (HKL.out _ _ ((kA3 _ _).alloc (kA2 _) _) K);have BW:=(BW.alloc BW.size _).trans (hq.mono kDm)))
    all_goals
     go_wp2
     go_meet
     case rel=>exact⟨rfl,kA1 BW⟩
   ·skip
    obtain⟨y,z,rfl⟩:∃y z,xs=[y,z]:=by exact len2 hn
    simp only[List.length_cons,List.length_nil,kAv,Nat.reduceAdd] at *;rw[show zBz 9=155 from rfl];have t0:=zFC;have t1:=ta155_152;have t2:=ta155_154;have t3:=ta155_155;have hb2:=hw1.out.alloc hw1.out.size (.cells #[.int .i64 9,.string num.f0,.string num.f1,.string name,.int .i64 size,.slice A 2 c] 155);obtain⟨ad,A5,c5,rfl,q0,q1,q2,q3,q4,q5,hvw⟩:=zAh (xs:=[y,z]) (Kd.C_below HC.out hb2) 0 kD6;simp only[List.getElem_cons_zero,kAZ,kAH] at q0 q1 q2 q3 q4 q5 hvw;have hbl:=zA4 w1 (.cells #[.int .i64 9,.string num.f0,.string num.f1,.string name,.int .i64 size,.slice (some ad) 2 c] 155);have e:zAr ⟨9,num,name,size,[y,z]⟩=zA7 y 4++⟨#[91]⟩++zA7 z 0++⟨#[93]⟩:=rfl;have hs:=HSZ.out;rw[e] at hs;have H1:=kA1 (HRec.out y kD6 _ _ 4 kD7 hvw (HT.out.below hb2));have HE:=kA1 (HRR.out.trans e);have HB2:=kA1 hb2;have HBL:=kA1 hbl;have HR2:=kA1 (fun v W (hv:Vw W z v) (hb:Below w.heap.size w W)=>HRec.out z kD6 v W 0 kD7 hv (HT.out.below hb));have HJ4:=kA1 (fun W bk hbk=>joined4 (zA7 y 4) ⟨#[91]⟩ (zA7 z 0) ⟨#[93]⟩ kD4 W bk hbk);clear HRec HRS HV HT HRR HN HSZ hw1 hb2 hvw e hbl hs;generalize zA7 y 4=tt1 at *;generalize zA7 z 0=tt2 at *;go_wp2_with fail;refine H1.out.mono ?_;rintro e w2 ⟨rfl,hb3⟩;have hb4:=HB2.out.trans (hb3.mono HB2.out.size);obtain⟨⟨p0,p1,p2,p3,p4,p5⟩,_,xl⟩:=zA6 (zAa hb3 HBL.out);obtain⟨ad2,A7,c7,had,s0,s1,s2,s3,s4,s5,hvw2⟩:=zAh (xs:=[y,z]) (Kd.C_below HC.out hb4) 1 kD6;obtain rfl:ad=ad2:=by injection had
    simp only[List.getElem_cons_succ,List.getElem_cons_zero,kBA,kB5] at s0 s1 s2 s3 s4 s5 hvw2;clear hb3 HBL q0 q1 q2 q3 q4 q5;have H3:=kA1 (HR2.out _ _ hvw2 hb4);have HB4:=kA1 hb4;clear hvw2 hb4 HR2 HC;go_wp2_with fail;refine H3.out.mono ?_;rintro e w6 ⟨rfl,hb6⟩;have hb7:=HB4.out.trans (hb6.mono HB4.out.size);clear hb6;go_wp2_with fail;refine (HJ4.out w6 _ rfl).mono ?_;rintro e w3 ⟨rfl,hb5⟩;go_wp2
    go_meet
    case rel=>exact⟨by rw[HE.out],kA1 ((hb7.alloc hb7.size _).trans (hb5.mono (by simp only[kAw];have:=hb7.size;omega)))⟩
  ·skip
   obtain⟨y,rfl⟩:∃y,xs=[y]:=by exact len1 hn
   simp only[List.length_cons,List.length_nil,kAv,Nat.reduceAdd] at *;rw[show zBz 7=155 from rfl];have t0:=zFC;have t1:=ta155_152;have t2:=ta155_154;have t3:=ta155_155;have hb2:=hw1.out.alloc hw1.out.size (.cells #[.int .i64 7,.string num.f0,.string num.f1,.string name,.int .i64 size,.slice A 1 c] 155);obtain⟨ad,A5,c5,rfl,q0,q1,q2,q3,q4,q5,hvw⟩:=zAh (xs:=[y]) (Kd.C_below HC.out hb2) 0 kD6;simp only[List.getElem_cons_zero,kAZ,kAH] at q0 q1 q2 q3 q4 q5 hvw;have hbl:=zA4 w1 (.cells #[.int .i64 7,.string num.f0,.string num.f1,.string name,.int .i64 size,.slice (some ad) 1 c] 155);have e:zAr ⟨7,num,name,size,[y]⟩=zA7 y 4++⟨#[94]⟩++ofR size:=rfl;have hs:=HRS.out y kD6 4;have hz:=zCz size hz0 kD4;have H1:=kA1 (HRec.out y kD6 _ _ 4 kD7 hvw (HT.out.below hb2));have HE:=kA1 (HRR.out.trans e);have HB2:=kA1 hb2;have HBL:=kA1 hbl;have HI:=kA1 (fun W (hb:Below w.heap.size w W)=>itoa_ofR size hz0 kD4▸zF5 size kD4 kD4 W (HT.out.below hb));clear HRec HRS HV HT HC HRR HN HSZ hw1 hb2 hvw e hbl;generalize zA7 y 4=t at *;generalize ofR size=tz at *;have HJ3:=kA1 (fun W bk hbk=>joined3 t ⟨#[94]⟩ tz kDc W bk hbk);go_wp2_with fail;refine H1.out.mono ?_;rintro e w2 ⟨rfl,hb3⟩;have hb4:=HB2.out.trans (hb3.mono HB2.out.size);obtain⟨⟨p0,p1,p2,p3,p4,p5⟩,_,xl⟩:=zA6 (zAa hb3 HBL.out);clear hb3;go_wp2_with fail;refine (HI.out _ hb4).mono ?_;rintro e w6 ⟨rfl,hb6⟩;have hb7:=hb4.trans (hb6.mono hb4.size);clear hb6;go_wp2_with fail;refine (HJ3.out w6 _ rfl).mono ?_;rintro e w3 ⟨rfl,hb5⟩;go_wp2
   go_meet
   case rel=>exact⟨by rw[HE.out],kA1 ((hb7.alloc hb7.size _).trans (hb5.mono (by simp only[kAw];have:=hb7.size;omega)))⟩
  ·skip
   have hb2:=hw1.out.alloc hw1.out.size (.cells #[.int .i64 8,.string num.f0,.string num.f1,.string name,.int .i64 size,.slice A xs.length c] 156);have HW:=kA1 (fun W (hb:Below w.heap.size w W)=>(by rw[HRR.out];exact single8 num name size xs _ W (HV.out.below hb) kD4 (kAB HSZ.out kD7) (HT.out.below hb) HRec.out:Calls Tryz.prog 101 #[exV ⟨8,num,name,size,xs⟩ (.slice A xs.length c)] W fun e w'=>e=.returned (.string r)∧Below W.heap.size W w'));clear HRec HRS HV HT HC HRR HN HSZ;unfold exV at HW;simp only at HW;rw[show zBz 8=156 from rfl];have t0:=zDB;have t1:=zEx;have t2:=zEw;have t3:=zEv;have t4:=zEu;go_wp2_with fail;refine (HW.out _ hb2).mono ?_;rintro e w2 ⟨rfl,hb3⟩;go_wp2
   go_meet
   case rel=>exact⟨rfl,kA1 (hb2.trans (hb3.mono hb2.size))⟩
  ·rcases ho with rfl | rfl
   ·skip
    obtain⟨y,rfl⟩:∃y,xs=[y]:=len1 hn;simp only[List.length_cons,List.length_nil,kAv,Nat.reduceAdd] at *;have hb2:=hw1.out.alloc hw1.out.size (.cells #[.int .i64 10,.string num.f0,.string num.f1,.string name,.int .i64 size,.slice A 1 c] 150);have HW:=kA1 (fun W (hb:Below w.heap.size w W)=>(by rw[HRR.out];exact worded10 num name size y _ W (HV.out.below hb) (kAB HSZ.out kD7) (HT.out.below hb) kD4 kD4 (HRec.out y kD6):Calls Tryz.prog 97 #[exV ⟨10,num,name,size,[y]⟩ (.slice A 1 c)] W fun e w'=>e=.returned (.string r)∧Below W.heap.size W w'));clear HRec HRS HV HT HC HRR HN HSZ;unfold exV at HW;simp only at HW;rw[show zBz 10=150 from rfl];have t0:=zDD;go_wp2_with fail;refine (HW.out _ hb2).mono ?_;rintro e w2 ⟨rfl,hb3⟩;go_wp2
    go_meet
    case rel=>exact⟨rfl,kA1 (hb2.trans (hb3.mono hb2.size))⟩
   ·skip
    obtain⟨y,rfl⟩:∃y,xs=[y]:=len1 hn;simp only[List.length_cons,List.length_nil,kAv,Nat.reduceAdd] at *;have hb2:=hw1.out.alloc hw1.out.size (.cells #[.int .i64 11,.string num.f0,.string num.f1,.string name,.int .i64 size,.slice A 1 c] 150);have HW:=kA1 (fun W (hb:Below w.heap.size w W)=>(by rw[HRR.out];exact worded11 num name size y _ W (HV.out.below hb) (kAB HSZ.out kD7) (HT.out.below hb) kD4 kD4 (HRec.out y kD6):Calls Tryz.prog 97 #[exV ⟨11,num,name,size,[y]⟩ (.slice A 1 c)] W fun e w'=>e=.returned (.string r)∧Below W.heap.size W w'));clear HRec HRS HV HT HC HRR HN HSZ;unfold exV at HW;simp only at HW;rw[show zBz 11=150 from rfl];have t0:=zDD;go_wp2_with fail;refine (HW.out _ hb2).mono ?_;rintro e w2 ⟨rfl,hb3⟩;go_wp2
    go_meet
    case rel=>exact⟨rfl,kA1 (hb2.trans (hb3.mono hb2.size))⟩
  ·skip
   obtain⟨y,z,t,u,rfl⟩:∃y z t u,xs=[y,z,t,u]:=len4 hn;simp only[List.length_cons,List.length_nil,kAv,Nat.reduceAdd] at *;have hb2:=hw1.out.alloc hw1.out.size (.cells #[.int .i64 12,.string num.f0,.string num.f1,.string name,.int .i64 size,.slice A 4 c] 150);have HW:=kA1 (fun W (hb:Below w.heap.size w W)=>(by rw[HRR.out];exact worded12 num name size y z t u _ W (HV.out.below hb) (kAB HSZ.out kD7) (HT.out.below hb) (HRec.out y kD6) (HRec.out z kD6) (HRec.out t kD6) (HRec.out u kD6):Calls Tryz.prog 97 #[exV ⟨12,num,name,size,[y,z,t,u]⟩ (.slice A 4 c)] W fun e w'=>e=.returned (.string r)∧Below W.heap.size W w'));clear HRec HRS HV HT HC HRR HN HSZ;unfold exV at HW;simp only at HW;rw[show zBz 12=150 from rfl];have t0:=zDD;go_wp2_with fail;refine (HW.out _ hb2).mono ?_;rintro e w2 ⟨rfl,hb3⟩;go_wp2
   go_meet
   case rel=>exact⟨rfl,kA1 (hb2.trans (hb3.mono hb2.size))⟩
  ·skip
   obtain⟨y,z,rfl⟩:∃y z,xs=[y,z]:=len2 hn;simp only[List.length_cons,List.length_nil,kAv,Nat.reduceAdd] at *;have hb2:=hw1.out.alloc hw1.out.size (.cells #[.int .i64 13,.string num.f0,.string num.f1,.string name,.int .i64 size,.slice A 2 c] 150);have HW:=kA1 (fun W (hb:Below w.heap.size w W)=>(by rw[HRR.out];exact worded13 num name size y z _ W (HV.out.below hb) (kAB HSZ.out kD7) (HT.out.below hb) (HRec.out y kD6) (HRec.out z kD6):Calls Tryz.prog 97 #[exV ⟨13,num,name,size,[y,z]⟩ (.slice A 2 c)] W fun e w'=>e=.returned (.string r)∧Below W.heap.size W w'));clear HRec HRS HV HT HC HRR HN HSZ;unfold exV at HW;simp only at HW;rw[show zBz 13=150 from rfl];have t0:=zDD;go_wp2_with fail;refine (HW.out _ hb2).mono ?_;rintro e w2 ⟨rfl,hb3⟩;go_wp2
   go_meet
   case rel=>exact⟨rfl,kA1 (hb2.trans (hb3.mono hb2.size))⟩
  ·skip
   have hb2:=hw1.out.alloc hw1.out.size (.cells #[.int .i64 14,.string num.f0,.string num.f1,.string name,.int .i64 size,.slice A xs.length c] 156);have HW:=kA1 (fun W (hb:Below w.heap.size w W)=>(by rw[HRR.out];exact single14 num name size xs _ W (HV.out.below hb) kD4 (kAB HSZ.out kD7) (HT.out.below hb) HRec.out:Calls Tryz.prog 101 #[exV ⟨14,num,name,size,xs⟩ (.slice A xs.length c)] W fun e w'=>e=.returned (.string r)∧Below W.heap.size W w'));clear HRec HRS HV HT HC HRR HN HSZ;unfold exV at HW;simp only at HW;rw[show zBz 14=156 from rfl];have t0:=zDB;have t1:=zEx;have t2:=zEw;have t3:=zEv;have t4:=zEu;go_wp2_with fail;refine (HW.out _ hb2).mono ?_;rintro e w2 ⟨rfl,hb3⟩;go_wp2
   go_meet
   case rel=>exact⟨rfl,kA1 (hb2.trans (hb3.mono hb2.size))⟩
 case rest =>
  obtain⟨rfl,BW⟩:=hcut;clear HRec HRS HV HT HC HRR HX HN HSZ;have hm:=HM.out;clear HM;generalize zBz op=K at *;rcases HF.out with rfl | rfl | rfl | rfl | rfl
  all_goals
   clear HF
   cases hl':decide (lv<least)
   ·have hl:=kA1 (kCe hl');go_wp2_with fail;refine (HLV.out _ _ _ _ _ _).mono ?_;rintro e w4 ⟨rfl,hb4⟩;go_wp2;go_ret;exact⟨by rw[HR.out,kA9 (by have:=hl.out;omega)];rfl,BW.out.trans (hb4.mono BW.out.size)⟩
   ·have hl:=kA1 (kAn hl');go_wp2_with fail;refine (HLV.out _ _ _ _ _ _).mono ?_;rintro e w4 ⟨rfl,hb4⟩;have h4:=BW.out.trans (hb4.mono BW.out.size);clear hb4;go_wp2_with fail;refine (HJ.out w4 _ rfl).mono ?_;rintro e w5 ⟨rfl,hb5⟩;go_wp2;go_ret;exact⟨by rw[HR.out,kAa (by have:=hl.out;omega)];rfl,(h4.alloc h4.size _).trans (hb5.mono (by simp only[kAw];have:=h4.size;omega))⟩
end Go.Proofs.YtjaobihcdkjmbaaGreatDoor
end
