/- What can be read as an expression is printed as a text that reads as the same, and is printed as itself: for every argument; a part of its proof. -/
import Derived.Test.YtjaobihcdkjmbaaGreatDoorDa
import Derived.Test.YtjaobihcdkjmbaaGreatDoorDb
import Derived.Test.YtjaobihcdkjmbaaGreatDoorD0
import Derived.Test.YtjaobihcdkjmbaaGreatDoorD4
import Derived.Test.YtjaobihcdkjmbaaGreatDoorD5
import Derived.Test.YtjaobihcdkjmbaaGreatDoorD7
import Derived.Test.YtjaobihcdkjmbaaGreatDoorD8
import Derived.Test.YtjaobihcdkjmbaaGreatDoorD9
import Derived.Test.YtjaobihcdkjmbaaGreatDoorD10
import Derived.Test.YtjaobihcdkjmbaaGreatDoorD11
import Derived.Test.YtjaobihcdkjmbaaGreatDoorD13
set_option linter.unusedVariables false
set_option linter.unusedSimpArgs false
namespace Go.Proofs.YtjaobihcdkjmbaaGreatDoor.PReadTokens
end Go.Proofs.YtjaobihcdkjmbaaGreatDoor.PReadTokens
namespace Go.Proofs.YtjaobihcdkjmbaaGreatDoorW.PrintWords
end Go.Proofs.YtjaobihcdkjmbaaGreatDoorW.PrintWords
set_option maxRecDepth 100000
set_option maxHeartbeats 8000000
section
namespace Go.Proofs.YtjaobihcdkjmbaaGreatDoor
open Go.RowKit Go.Proofs.YtjaobihcdkjmbaaGreatDoorW.PrintWords Go.Proofs.YtjaobihcdkjmbaaGreatDoor.PReadTokens
theorem zEo {w:World} {A:Addr} {l:List Int} (hs:l.length≤100000) (h:∀i (hi:i<l.length),w.cell? (A.add i)=some (.int .u32 l[i])):U32.C w (some A) l.length l :=
 ⟨rfl,kD4,fun _=>⟨A,rfl,fun j p hj=>by
  have hj2:j<l.length:=(kAW.1 hj).1;have hp:l[j]=p:=(kAW.1 hj).2;subst hp;refine⟨[.int .u32 l[j]],rfl,rfl,fun i u hu=>?_⟩
  cases i with
  | zero =>
   simp at hu;subst hu;have:=h j hj2;show w.cell? (A.add (j*1+0))=_;rw[Nat.mul_one];exact this
  | succ i=>simp at hu⟩⟩
theorem limbs_C {w:World} {b n:Nat} {l:List Int} {t:TypeId} (hs:l.length≤100000) (h:w.heap[b]?=some (.cells (zAS l) t (0,0))) (hn:n≤l.length):U32.C w (some ⟨b,0,none⟩) n (l.take n):=by
 have:=zEo (w:=w) (A:=⟨b,0,none⟩) (l:=l.take n) kD8 (fun i hi=>by
  have hi2:i<l.length:=by simp at hi;omega
  rw[kCG];rw[zBU];exact zB1 h i hi2)
 rwa [kAe,kAY hn] at this
theorem zFF (l:List Int) (m:Int) (A:Option Addr) (c:Nat) (w:World) (hC:U32.C w A l.length l) (hc:l.length≤c) (hl:Limb l) (hm:0<m) (hm2:m<1000000000) (hs:l.length≤1002) :
  Calls Tryz.prog 259 #[.slice A l.length c,.int .u32 m] w fun e w'=>∃(q:List Int) (r:Int) (Aq:Option Addr) (cq:Nat),e=.returned (.tuple #[.slice Aq q.length cq,.int .u32 r])∧q.length=l.length∧q.length≤cq∧U32.C w' Aq q.length q∧Limb q∧0≤r∧r<m∧val l=val q*m+r∧Below w.heap.size w w':=by
 obtain⟨q,r,e1,e2,e3,e4,e5,e6⟩:=shortly_val l m hl hm hm2 kD4;refine (limbs_shortly.calls _ A c l m q r w hC hc e1).mono ?_;rintro e w' ⟨v,rfl,hR,hb⟩;obtain⟨Aq,cq,rfl,h1,h2⟩:=Kd.R_reads hR;exact⟨q,r,Aq,cq,rfl,e2,h1,h2,e3,e4,e5,e6,hb⟩
theorem zEJ (b M:Nat):∀(k o:Nat) (w:World),w.heap[b]?=some (.cells (zAS (List.replicate M 0)) 270 (0,0))→(w.setCells b o (List.replicate k (.int .u32 0))).heap[b]?=some (.cells (zAS (List.replicate M 0)) 270 (0,0))∧w.grownBy (w.setCells b o (List.replicate k (.int .u32 0))) (some b)
 | 0,o,w,h=>⟨h,kAS _ _⟩
 | k+1,o,w,h=>by
  have h1:=zBD h o 0;rw[List.set_replicate_self] at h1;obtain⟨a1,a2⟩:=zEJ b M k (o+1) _ h1;exact⟨a1,kA7 (kAf _ _ _ _) a2⟩
theorem zero270 (w:World):(zeroValue 270).run Tryz.prog w=.ok (.int .u32 0) w:=kD5
theorem limbs_clear (b M:Nat) (hM:0<M) (w:World) (h:w.heap[b]?=some (.cells (zAS (List.replicate M 0)) 270 (0,0))) :
  ∃w',(∀ty,(Builtin.clear_ #[232] ty #[.slice (some ⟨b,0,none⟩) M M]).run Tryz.prog w=.ok (.tuple #[]) w')∧w'.heap[b]?=some (.cells (zAS (List.replicate M 0)) 270 (0,0))∧w.grownBy w' (some b):=by
 obtain⟨h1,h2⟩:=zEJ b M M 0 w h;refine⟨_,fun ty=>Lib.run_clear_slice w 232 270 ty (.int .u32 0) Tryz.underlying232 zero270 rfl rfl b 0 M M hM (fun j hj=>?_) (fun j hj=>?_),h1,h2⟩
 ·rw[kAv,zB1 h j (by simpa using hj)];rfl
 ·rw[kAv];exact zA2 h j
theorem over_setup {a b aa bb:List Int} {n la M:Nat} {v m h:Int} (hn:b.length=n) (hla:a.length=la) (ha:Limb a) (hb:Limb b) (hbb:Limb bb) (hn2:2≤n) (hM:la+1-n=M) (hnla:n≤la)
  (haa:val aa=val a*m) (hbl:bb.length=n+1) (hbv:val bb=val b*m) (hv:v=b[n-1]' kD4) (hv1:1≤v) (hh:h=bb[n-1]' kD4) (g1:500000000≤v*m) (g2:1≤m) (g3:(v+1)*m≤1000000000) :
  val (bb.take n)=val b*m∧500000000≤h∧val (bb.take n)<1000000000 ^ n∧val aa<val (bb.take n)*1000000000 ^ M:=by
 obtain⟨k,rfl⟩:∃k,n=k+1:=⟨n-1,kD4⟩;have e1:=zAC (l:=b) k kD4;rw[show k+1=b.length from hn.symm,kB6] at e1;have hve:b[k]=v:=hv.symm;rw[hve] at e1;have hbt0:=zB0 (hb.take k);have hbt1:=zEa (hb.take k);rw[kAe,kAY kD4] at hbt1;have hP:=zBq k;have lo:1000000000 ^ k*v≤val b:=kD4
 have hi:val b<1000000000 ^ k*(v+1):=by rw[kBB,kCZ];omega
 have lo2:1000000000 ^ k*(v*m)≤val b*m:=by
  rw[← kB3];exact kB9 lo kD4
 have hi2:val b*m<1000000000 ^ (k+1):=by
  have s1:val b*m<1000000000 ^ k*(v+1)*m:=Int.mul_lt_mul_of_pos_right hi kD4;have s2:(1000000000:Int) ^ k*((v+1)*m)≤1000000000 ^ k*1000000000:=kAG g3 (kBh hP);rw[kBI];rw[kB3] at s1;omega
 have e2:=zAC (l:=bb) (k+1) kD4;rw[show k+1+1=bb.length from hbl.symm,kB6] at e2;have hbb0:=zB0 (hbb.take (k+1));have hbl1:=hbb.at (k+1) kD4;have hz:bb[k+1]=0:=by
  rcases (show bb[k+1]=0∨1≤bb[k+1] by omega) with h | h
  ·exact h
  ·exfalso;have:(1000000000:Int) ^ (k+1)*1≤1000000000 ^ (k+1)*bb[k+1]:=kAG h (kBh (zBq _));omega
 rw[hz,kCx,kCM] at e2;have eV:val (bb.take (k+1))=val b*m:=by rw[← e2,hbv]
 have e3:=zAC (l:=bb) k kD4;have hhe:bb[k]=h:=hh.symm;rw[hhe] at e3;have hbt2:=zEa (hbb.take k);rw[kAe,kAY kD4] at hbt2;have hh2:500000000≤h:=by
  have s1:(1000000000:Int) ^ k*(v*m)<1000000000 ^ k*(h+1):=by rw[kBB _ h,kCZ];omega
  have:=Int.lt_of_mul_lt_mul_left s1 (kBh hP);omega
 refine⟨eV,hh2,kD4,?_⟩;rw[haa,eV];have hal:=zEa ha;rw[hla] at hal;have s1:val a*m<1000000000 ^ la*m:=Int.mul_lt_mul_of_pos_right hal kD4;have s2:(1000000000:Int) ^ k*(v*m)*1000000000 ^ M≤val b*m*1000000000 ^ M:=kB9 lo2 (kBh (zBq M));have s3:(1000000000:Int) ^ la*m≤1000000000 ^ k*(v*m)*1000000000 ^ M:=by
  have e:(1000000000:Int) ^ la=1000000000 ^ k*1000000000 ^ M:=by rw[← kCF];congr 1;omega
  have e':(1000000000:Int) ^ k*(v*m)*1000000000 ^ M=1000000000 ^ k*1000000000 ^ M*(v*m):=by rw[kB3,kBg (v*m),← kB3]
  rw[e,e'];refine kAG ?_ (kBh (Int.mul_pos hP (zBq M)));have:1*m≤v*m:=kB9 hv1 kD4;omega
 omega
theorem over_end {A B Q V T R e m:Int} (hm:0<m) (hV:V=B*m) (h1:T<V) (h2:T+V*Q=A*m) (h3:T=R*m+e) (he0:0≤e) (he1:e<m):A=B*Q+R∧R<B:=by
 subst hV;have e1:m*(A-B*Q-R)=e:=by
  have:B*m*Q=B*Q*m:=by rw[kB3,kBg m,← kB3]
  rw[this] at h2;rw[kBg,Int.sub_mul,Int.sub_mul];omega
 have e2:A-B*Q-R=0:=by
  rcases (show A-B*Q-R=0∨1≤A-B*Q-R∨A-B*Q-R≤-1 by omega) with h | h | h
  ·exact h
  ·have:=kAG h (kBh hm);omega
  ·have:=kAG h (kBh hm);omega
 refine⟨kD4,?_⟩;have:R*m<B*m:=kD4
 exact Int.lt_of_mul_lt_mul_right this (kBh hm)
theorem val_drop1 {l:List Int} (n:Nat) (h:n<l.length):val (l.drop n)=l[n]+1000000000*val (l.drop (n+1)):=by
 rw[kAp h,val]
theorem over_next {r' qs:List Int} {n at_:Nat} {V qq A u:Int} (hr':Limb r') (hlen:at_+n<r'.length) (hV:V<1000000000 ^ n) (hval:val (r'.take (at_+n+1))=u-qq*(V*1000000000 ^ at_))
  (hI2:u+V*1000000000 ^ (at_+1)*val (qs.drop (at_+1))=A) (hqD2:u<(qq+1)*(V*1000000000 ^ at_)) (hq:at_<qs.length) :
  val (r'.take (at_+n))<V*1000000000 ^ at_∧val (r'.take (at_+n))+V*1000000000 ^ at_*val ((qs.set at_ qq).drop at_)=A:=by
 have e1:=zAC (l:=r') (at_+n) hlen;have h0:=hr'.at (at_+n) hlen;have hP:=zBq at_;have hlt:val (r'.take (at_+n+1))<V*1000000000 ^ at_:=by
  rw[hval];rw[Int.add_mul,kCj] at hqD2;omega
 have hlt2:V*1000000000 ^ at_<1000000000 ^ (at_+n):=by
  rw[kCF,kBg V];exact Int.mul_lt_mul_of_pos_left hV hP
 have hnn:=zB0 (hr'.take (at_+n));have hz:r'[at_+n]=0:=by
  rcases (show r'[at_+n]=0∨1≤r'[at_+n] by omega) with h | h
  ·exact h
  ·exfalso;have:(1000000000:Int) ^ (at_+n)*1≤1000000000 ^ (at_+n)*r'[at_+n]:=kAG h (kBh (zBq _));omega
 rw[hz,kCx,kCM] at e1;rw[← e1];refine⟨hlt,?_⟩;have e2:val ((qs.set at_ qq).drop at_)=qq+1000000000*val (qs.drop (at_+1)):=by
  rw[val_drop1 at_ kD8,List.getElem_set_self,List.drop_set_of_lt kD4]
 rw[e2,hval,← hI2,kBB,kBI];generalize (1000000000:Int) ^ at_=B;generalize val (List.drop (at_+1) qs)=T;have s1:V*B*qq=qq*(V*B):=kBg _ _;have s2:V*B*(1000000000*T)=V*(B*1000000000)*T:=by rw[← kB3,kB3 V B]
 omega
def OverPost (a b:List Int) (w:World) (e:Ending) (w':World):Prop :=
 ∃(q r:List Int) (Bq cq:Nat) (Ar:Option Addr) (cr:Nat),e=.returned (.tuple #[.slice (some ⟨Bq,0,none⟩) q.length cq,.slice Ar r.length cr])∧q.length≤cq∧r.length≤cr∧0<q.length∧q.length≤1001∧r.length=b.length∧Limb q∧Limb r ∧
  w'.heap[Bq]?=some (.cells (zAS q) 270 (0,0))∧U32.C w' Ar r.length r∧val a=val b*val q+val r∧val r<val b∧Below w.heap.size w w'
theorem over_calls (a b:List Int) (A B:Option Addr) (ca cb:Nat) (w:World) (hA:U32.C w A a.length a) (hB:U32.C w B b.length b) (la:Limb a) (lb:Limb b) (hLb:Last b) (h2:2≤b.length) (hab:b.length≤a.length) (hs:a.length≤1000) :
  Calls Tryz.prog 260 #[.slice A a.length ca,.slice B b.length cb] w (OverPost a b w):=by
 obtain⟨n,hn⟩:∃n,b.length=n:=⟨_,rfl⟩;obtain⟨la',hla⟩:∃n,a.length=n:=⟨_,rfl⟩;have hv:=zEc hB (n-1) kD4;obtain⟨bd,rfl,hvc⟩:=hv;have hv0:=hLb (n-1) kD4 kD4;obtain⟨hv1,hv2⟩:=lb.at (n-1) kD4;obtain⟨v,hvv⟩:∃v,v=b[n-1]' kD4:=⟨_,rfl⟩;rw[← hvv] at hvc hv0 hv1 hv2;obtain⟨g1,g2,g3⟩:=by_great (v:=v) kD4 hv2;obtain⟨m,hm⟩:∃m,m=1000000000 / (v+1):=⟨_,rfl⟩;rw[← hm] at g1 g2 g3;have hm2:m<1000000000:=by
  have:(1+1)*m≤(v+1)*m:=kB9 kD4 kD4;omega
 have hc1:=zFi a m A ca w hA la kD4 hm2 kD4;have hc2:=fun W (h:Below w.heap.size w W)=>zFi b m (some bd) cb W (Kd.C_below hB h) lb kD4 hm2 kD4
 rw[hla] at hc1⊢;rw[hn] at hc2⊢;have hnl:((n:Int)-1)=((n-1:Nat):Int):=kD4
 have hmT:IntKind.u64.wrap 1000000000=1000000000:=kD5
 have hmD:Int.tdiv 1000000000 (v+1)=m:=by rw[hm];exact kBz kD4
 have hnla:n≤la':=kD4
 have hlas:la'≤1000:=kD4
 have hn2:2≤n:=kD4
 replace hvv:=kA1 hvv;replace hm:=kA1 hm;replace g1:=kA1 g1;replace g3:=kA1 g3;replace hn:=kA1 hn;replace hla:=kA1 hla;replace la:=kA1 la;replace lb:=kA1 lb;replace hLb:=kA1 hLb;replace hA:=kA1 hA;replace hB:=kA1 hB;replace hc2:=kA1 hc2;go_enter Tryz.func260,Tryz.ntmps260;go_wp2_with fail;refine hc1.mono ?_;rintro e w1 ⟨aa,ha1,ha2,ha3,rfl,ha4,hb1⟩;have hs1:=hb1.size;have hsz1:=zA5 ha4;have hc3:=hc2.out w1 hb1;clear hc1;go_wp2_with fail;refine hc3.mono ?_;rintro e w2 ⟨bb,hbb1,hbb2,hbb3,rfl,hbb4,hb2⟩;have ha5:=zAa hb2 ha4;have hb02:=hb1.trans (hb2.mono hs1);have hne:w.heap.size≠w1.heap.size:=kD4
 clear hc3 hc2 ha4 hb1 hb2 hs1 hvc;obtain⟨Ba,hBa⟩:∃x,x=w.heap.size:=⟨_,rfl⟩;obtain⟨Bb,hBb⟩:∃x,x=w1.heap.size:=⟨_,rfl⟩;simp only[← hBa,← hBb] at ha5 hbb4 hne hsz1 ⊢;replace hBa:=kA1 hBa;clear hBb;have hh:=zB1 hbb4 (n-1) kD4;have hx:=zB1 hbb4 (n-2) kD4;obtain⟨h,hhe⟩:∃h,h=bb[n-1]' kD4:=⟨_,rfl⟩;obtain⟨nx,hxe⟩:∃h,h=bb[n-2]' kD4:=⟨_,rfl⟩;rw[← hhe] at hh;rw[← hxe] at hx;obtain⟨hh1,hh2⟩:=hbb2.at (n-1) kD4;obtain⟨hx1,hx2⟩:=hbb2.at (n-2) kD4;rw[← hhe] at hh1 hh2;rw[← hxe] at hx1 hx2;replace hhe:=kA1 hhe;replace hxe:=kA1 hxe;replace ha1:=kA1 ha1;replace ha3:=kA1 ha3;replace hbb1:=kA1 hbb1;replace hbb3:=kA1 hbb3;replace ha5:=kA1 ha5;replace hbb4:=kA1 hbb4;replace ha2:=kA1 ha2;replace hbb2:=kA1 hbb2;have hn1:(n:Int)+1-1=(n:Int):=kD4
 have hnl2:((n:Int)-2)=((n-2:Nat):Int):=kD4
 obtain⟨M,hM⟩:∃M,la'+1-n=M:=⟨_,rfl⟩;have hMi:(la':Int)+1-(n:Int)=(M:Int):=kD4
 have hM0:0<M:=kD4
 have hM1:M≤1001:=kD4
 replace hM:=kA1 hM;have hi1:((n-1:Nat):Int)<(n:Int):=kD4
 have hi2:((n-2:Nat):Int)<(n:Int):=kD4
 have hmk:=limbs_make M kD4;replace hmk:=kA1 hmk;go_upto_region 5 with (fail)
 go_quiet (fail)
 have hmk2:=hmk.out (w2.drewN nq);obtain⟨w3,hw3⟩:∃Y,Y=(w2.drewN nq).alloc (.cells (zAS (List.replicate M 0)) 270):=⟨_,rfl⟩;rw[← hw3] at hmk2;have hB3:Below w2.heap.size w2 w3:=by rw[hw3];exact (zA3 (kA3 _ w2) _).alloc (kA2 _) _
 have hq3:w3.heap[w2.heap.size]?=some (.cells (zAS (List.replicate M 0)) 270 (0,0)):=by rw[hw3];exact zA4 _ _
 obtain⟨Bq,hBq⟩:∃x,x=w2.heap.size:=⟨_,rfl⟩;have hBq':(w2.drewN nq).heap.size=Bq:=by rw[hBq];rfl
 rw[hBq'] at hmk2;obtain⟨w4,hcl,hq4,hg4⟩:=limbs_clear Bq M hM0 w3 (by rw[hBq];exact hq3);replace hcl:=hcl;clear hw3 hmk;replace hBq':=kA1 hBq';replace hBq:=kA1 hBq;have hA4:Hid (w4.heap[Ba]?=some (.cells (zAS aa) 270 (0,0))):=kA1 ((hg4.block Ba (by have:=zA5 (zAa hB3 ha5.out);omega) (by intro e;injection e with e;have:=zA5 ha5.out;have:=hBq.out;omega)).trans (zAa hB3 ha5.out));have hB4:Hid (w4.heap[Bb]?=some (.cells (zAS bb) 270 (0,0))):=kA1 ((hg4.block Bb (by have:=zA5 (zAa hB3 hbb4.out);omega) (by intro e;injection e with e;have:=zA5 hbb4.out;have:=hBq.out;omega)).trans (zAa hB3 hbb4.out));have hQa:Ba≠Bq:=by have:=zA5 ha5.out;have:=hBq.out;omega
 have hQb:Bb≠Bq:=by have:=zA5 hbb4.out;have:=hBq.out;omega
 have hlow:w.heap.size≤Ba∧w.heap.size≤Bb∧w.heap.size≤Bq:=by have:=hBa.out;have:=hBq.out;have:=hb02.size;omega
 have hBel:Below w.heap.size w w4:=(hb02.trans (hB3.mono hb02.size)).grown hg4 (hb02.trans (hB3.mono hb02.size)).size (fun k e=>by injection e with e;subst e;omega);obtain⟨hV1,hV2,hV3,hV4⟩:=over_setup hn.out hla.out la.out lb.out hbb2.out hn2 hM.out hnla ha3.out hbb1.out hbb3.out hvv.out kD4 hhe.out g1.out g2 g3.out;obtain⟨V,hVV⟩:∃V,V=val (bb.take n):=⟨_,rfl⟩;rw[← hVV] at hV1 hV3 hV4;replace hVV:=kA1 hVV;replace hV1:=kA1 hV1;replace hV3:=kA1 hV3;replace hV4:=kA1 hV4;replace hq4:=kA1 hq4;replace hlow:=kA1 hlow;replace hg4:=kA1 hg4;replace hq3:=kA1 hq3;replace hh:=kA1 hh;replace hx:=kA1 hx;go_upto_region 8 with (fail);clear hcl hmk2;go_wp2_with fail;go_loopg [61] M (fun s v61 wr=>∃r qs:List Int,s≤M∧v61=.int .i64 ((M:Int)-(s:Int))∧Hid (r.length=la'+1)∧Hid (Limb r)∧Hid (qs.length=M)∧Hid (Limb qs)∧Hid (val (r.take (s+n))<V*1000000000 ^ s)∧Hid (val (r.take (s+n))+V*1000000000 ^ s*val (qs.drop s)=val aa) ∧
  Hid (wr.heap[Ba]?=some (.cells (zAS r) 270 (0,0)))∧Hid (wr.heap[Bb]?=some (.cells (zAS bb) 270 (0,0)))∧Hid (wr.heap[Bq]?=some (.cells (zAS qs) 270 (0,0)))∧Below w.heap.size w wr)
 case atStart =>
  have hMn:M+n=aa.length:=by have:=ha1.out;have:=hM.out;omega
  exact⟨aa,List.replicate M 0,kA2 _,kD6,ha1,ha2,kA1 kD6,kA1 (fun x hx=>by simp at hx;omega),kA1 (by rw[hMn,kB6];exact hV4.out),kA1 (by rw[hMn,kB6,List.drop_of_length_le kD6];simp[val]),hA4,hB4,hq4,hBel⟩
 case round =>
  obtain⟨r,qs,hsM,rfl,hrl,hrL,hql,hqL,hI1,hI2,hA4,hB4,hq4,hBel⟩:=hrel
  cases gk with
  | zero =>
   have hlen:(r.take n).length=n:=by rw[kAe,hrl.out];omega
   have hsh:=zFF (r.take n) m (some ⟨Ba,0,none⟩) (la'+1) wr (by rw[hlen];exact limbs_C (by rw[hrl.out];omega) hA4.out (by rw[hrl.out];omega)) (by rw[hlen];omega) (hrL.out.take n) kD4 hm2 (by rw[hlen];omega);rw[hlen] at hsh;replace hsh:=kA1 hsh;replace hlen:=kA1 hlen;go_wp2_with fail;refine hsh.out.mono ?_;rintro e w5 ⟨q,e5,Aq,cq,rfl,f1,f2,f3,f4,f5,f6,f7,f8⟩;clear hsh;replace f1:=kA1 f1;replace f2:=kA1 f2;replace f3:=kA1 f3;replace f4:=kA1 f4;replace f7:=kA1 f7;go_wp2
   go_ret2
   have hI:=hI1.out;have hJ:=hI2.out;rw[kAv,Int.pow_zero,kCZ] at hI hJ;rw[kBZ] at hJ;have hend:=over_end (by omega:0<m) hV1.out hI (by rw[hJ];exact ha3.out) f7.out f5 f6;refine⟨qs,q,Bq,M,Aq,cq,by rw[hql.out];rfl,by rw[hql.out];omega,f2.out,by rw[hql.out];omega,by rw[hql.out];omega,by rw[f1.out,hn.out],hqL.out,f4.out,zAa f8 hq4.out,f3.out,hend.1,hend.2,hBel.trans (f8.mono hBel.size)⟩
  | succ at_ =>
   rw[show ((at_+1:Nat):Int)=(at_:Int)+1 from by omega];have hat:at_+n<r.length:=by have:=hrl.out;have:=hM.out;omega
   have hatL:at_+n<la'+1:=by have:=hrl.out;omega
   obtain⟨qq,x,z,W,hG⟩:=over_guess2 hrL.out hbb2.out hn2 kDQ hat hhe.out hxe.out hV2 (by rw[← hVV.out];exact hI1.out);rw[← hVV.out] at hG;have hix:(M:Int)-1-((M:Int)-((at_:Int)+1))=(at_:Int):=kD4
   have c1:=zB1 hA4.out (at_+n) hat;have c2:=zB1 hA4.out (at_+n-1) kD4;have c3:=zB1 hA4.out (at_+n-2) kD4;obtain⟨y1,hy1⟩:∃y,y=r[at_+n]:=⟨_,rfl⟩;obtain⟨y2,hy2⟩:∃y,y=r[at_+n-1]' kD4:=⟨_,rfl⟩;obtain⟨y3,hy3⟩:∃y,y=r[at_+n-2]' kD4:=⟨_,rfl⟩;obtain⟨d1,d1'⟩:=hrL.out.at (at_+n) hat;obtain⟨d2,d2'⟩:=hrL.out.at (at_+n-1) kD4;obtain⟨d3,d3'⟩:=hrL.out.at (at_+n-2) kD4;rw[← hy1] at c1 d1 d1';rw[← hy2] at c2 d2 d2';rw[← hy3] at c3 d3 d3';rw[← hy1,← hy2,← hy3] at hG;replace hy1:=kA1 hy1;replace hy2:=kA1 hy2;replace hy3:=kA1 hy3;replace hix:=kA1 hix;replace hG:=kA1 hG;have hA1:(at_:Int)+(n:Int)-1=((at_+n-1:Nat):Int):=kD4
   have hA2:(at_:Int)+(n:Int)-2=((at_+n-2:Nat):Int):=kD4
   have b1:(at_:Int)+(n:Int)<(la':Int)+1:=kD4
   have b2:((at_+n-1:Nat):Int)<(la':Int)+1:=kD4
   have b3:((at_+n-2:Nat):Int)<(la':Int)+1:=kD4
   have hh0:(h==0)=false:=zAF kD4;have hix2:=hix.out;have hlt62:(M:Int)-((at_:Int)+1)<(M:Int):=kD4
   go_wp2;refine wp_scope_straight ?_;go_wp2;clear hix2
   go_quiet (fail)
   replace hA4:Hid ((wr.drewN nq).heap[Ba]?=some (.cells (zAS r) 270 (0,0))):=hA4;replace hB4:Hid ((wr.drewN nq).heap[Bb]?=some (.cells (zAS bb) 270 (0,0))):=hB4;replace hq4:Hid ((wr.drewN nq).heap[Bq]?=some (.cells (zAS qs) 270 (0,0))):=hq4;replace hBel:=zA3 hBel nq;replace c3:(wr.drewN nq).cell? { block:=Ba,off:=at_+n-2 }=some (Value.int IntKind.u32 y3):=c3;clear c1 c2;generalize wr.drewN nq=wx at *;go_wp2;have hTd:Int.tdiv (y1*1000000000+y2) h=(y1*1000000000+y2) / h:=kBz kD4;have hTm:Int.tmod (y1*1000000000+y2) h=(y1*1000000000+y2) % h:=kBX kD4
   go_quiet (fail)
   obtain⟨s1,s2⟩:=hG.out.start;have s3:=kBN (y1*1000000000+y2) h;have s4:=kBM (y1*1000000000+y2) (show h≠0 by omega);have s5:=kBD (y1*1000000000+y2) (show 0<h by omega);have s0:=hG.out.hq0;have s6:=hG.out.hh1;rw[zEb (show 0≤(y1*1000000000+y2) / h by omega) kD4];clear hTd hTm;obtain⟨tp,htp⟩:∃t,t=y1*1000000000+y2:=⟨_,rfl⟩;rw[← htp] at s1 s2 s3 s4 s5 hG ⊢;rw[kBg] at s3;generalize tp / h=g0 at *;generalize tp % h=l0 at *;replace htp:=kA1 htp;replace s3:=kA1 s3;replace hA4:Hid ((wx.drewN nq).heap[Ba]?=some (.cells (zAS r) 270 (0,0))):=hA4;replace hB4:Hid ((wx.drewN nq).heap[Bb]?=some (.cells (zAS bb) 270 (0,0))):=hB4;replace hq4:Hid ((wx.drewN nq).heap[Bq]?=some (.cells (zAS qs) 270 (0,0))):=hq4;replace hBel:=zA3 hBel nq;replace c3:(wx.drewN nq).cell? { block:=Ba,off:=at_+n-2 }=some (Value.int IntKind.u32 y3):=c3;generalize wx.drewN nq=wy at *
   go_upto_block 2 with (fail)
   refine wp_label ?_
   go_upto_block 2 with (fail)
   go_cut [13,14] (fun v13 v14 wc=>∃g l:Int,v13=.int .u64 g∧v14=.int .u64 l∧qq≤g∧g≤qq+1∧wc=wy)
   case first =>
    clear hA4 hB4 hq4 hBel hI1 hI2;go_wp2_with fail;go_loopg [13,14] (1000000000-l0).toNat (fun gk v13 v14 w6=>∃g l:Int,v13=.int .u64 g∧v14=.int .u64 l∧gk=(1000000000-l).toNat∧0≤l∧l<1000000000∧qq≤g∧g≤1000000001∧Hid (g*h+l=tp)∧w6=wy)
    case atStart=>exact⟨g0,l0,rfl,rfl,rfl,s4,kD4,s1,s2,s3,rfl⟩
    case round =>
     obtain⟨g,l,rfl,rfl,hgk,hl0,hl1,hg0,hg1,hgl,rfl⟩:=hrel;have hgl':Hid ((g-1)*h+(l+h)=tp):=kA1 (by have:=hgl.out;rw[Int.sub_mul,kCj];omega);by_cases hgB:1000000000≤g
     ·have hq':qq≤g-1:=by have:=hG.out.hq1;omega
      by_cases hl2:1000000000≤l+h
      ·go_wp2
       go_meet
       exact⟨g-1,l+h,rfl,rfl,hq',hG.out.less2 hgl'.out kD4 kD4 kD4,rfl⟩
      ·go_wp2;go_roundg (1000000000-(l+h)).toNat
       case measure=>omega
       case rel=>exact⟨g-1,l+h,rfl,rfl,rfl,kD4,kD4,hq',kD4,hgl',rfl⟩
     ·obtain⟨p,hp⟩:∃p,p=g*nx:=⟨_,rfl⟩;have p0:0≤p:=by rw[hp];exact kCa kD4 hx1
      have p1:p≤1000000000*999999999:=by rw[hp];exact Int.mul_le_mul kD4 kD4 hx1 kD4
      have hpw:IntKind.u64.wrap (g*nx)=p:=by rw[← hp];exact zEb p0 kD4
      replace hp:=kA1 hp;by_cases hc:l*1000000000+y3<p
      ·have hq':qq≤g-1:=hG.out.more hgl.out (by rw[← hp.out];exact hc);by_cases hl2:1000000000≤l+h
       ·go_wp2
        go_meet
        exact⟨g-1,l+h,rfl,rfl,hq',hG.out.less2 hgl'.out kD4 kD4 kD4,rfl⟩
       ·go_wp2;go_roundg (1000000000-(l+h)).toNat
        case measure=>omega
        case rel=>exact⟨g-1,l+h,rfl,rfl,rfl,kD4,kD4,hq',kD4,hgl',rfl⟩
      ·go_wp2
       go_meet
       exact⟨g,l,rfl,rfl,hg0,hG.out.less hgl.out kD4 kD4 (by rw[← hp.out];omega),rfl⟩
   case rest =>
    obtain⟨g,l,rfl,rfl,hg0,hg1,rfl⟩:=hcut;have hqq:=hG.out.hq1;have hpl:=pull_calls r bb n at_ g Ba Bb (la'+1) n wc hA4.out hB4.out hne hrL.out hbb2.out kDQ kD4 kD4 kD4 (by have:=hrl.out;omega);rw[hrl.out] at hpl;replace hpl:=kA1 hpl;go_wp2_with fail;refine hpl.out.mono ?_;clear hpl;rintro e w7 ⟨r1,d,hd,rfl,p1,p2,p3,p4,p5,p6⟩;have hB7:=(p6.block Bb (zA5 hB4.out) kDa).trans hB4.out;have hq7:=(p6.block Bq (zA5 hq4.out) kDa).trans hq4.out;have hBel7:=hBel.grown p6 hBel.size (fun k e=>by injection e with e;subst e;exact hlow.out.1);have hDp:=hG.out.hDp;have hR0:=zB0 (p2.take (at_+n+1));have hR1:=zEa (p2.take (at_+n+1));rw[kAe,p1,kAY kD4] at hR1;rw[← hVV.out,Int.mul_left_comm,kBg _ V,show at_+n+1=at_+1+n from by omega] at p4;rw[show at_+n+1=at_+1+n from by omega] at hR0 hR1;have hl7:=over_left hDp hG.out.hq0 hG.out.hqD hG.out.hqD2 hg0 hg1 hR0 hR1 p4 hd;have hatq:at_<qs.length:=by rw[hql.out];omega
    have hatM:(at_:Int)<(M:Int):=kD4
    have hqq0:=hG.out.hq0;have hI2o:=hI2.out;replace hq7:=kA1 hq7;replace hB7:=kA1 hB7;replace p5:=kA1 p5;replace p2:=kA1 p2;replace p3:=kA1 p3;replace p4:=kA1 p4;replace hI2o:=kA1 hI2o;rcases hl7 with⟨rfl,rfl,hv7⟩ | ⟨rfl,rfl,hv7⟩
    ·have hN:=over_next p2.out (by rw[p1];omega) hV3.out (by rw[show at_+n+1=at_+1+n from by omega];exact hv7) hI2o.out hG.out.hqD2 hatq;have y0:=zB1 hq7.out at_ hatq;have yf:=zA2 hq7.out at_;replace hv7:=kA1 hv7;replace hN:=kA1 hN;clear hd;go_wp2;simp only[Exit.noGoto];go_wp2;go_roundg at_
     case measure=>omega
     case rel=>exact⟨r1,qs.set at_ g,kD4,by go_num,kA1 p1,kA1 p2.out,kA1 (by simp[hql.out]),kA1 (zD4 hqL.out _ _ (by have:=hG.out.hq1;have:=hG.out.hq0;omega)),kA1 hN.out.1,kA1 hN.out.2,kA1 (((kAf _ _ _ _).block Ba (zA5 p5.out) kDa).trans p5.out),kA1 (((kAf _ _ _ _).block Bb (zA5 hB7.out) kDa).trans hB7.out),kA1 (zBD hq7.out _ _),hBel7.setCell (p:=⟨Bq,at_,none⟩) hlow.out.2.2 _⟩
    ·have hps:=push_calls r1 bb n at_ Ba Bb (la'+1) n w7 p5.out hB7.out hne p2.out hbb2.out kDQ (by rw[p1];omega) (by rw[p1];omega);rw[p1] at hps;have hg1':qq+1-1=qq:=kD4
     replace hv7:=kA1 hv7;replace hps:=kA1 hps;clear hd;go_wp2_with fail;refine hps.out.mono ?_;clear hps;rintro e w8 ⟨r2,c,m1,m2,rfl,m3,m4,m5,m6,m7,m8⟩;have hB8:=(m8.block Bb (zA5 hB7.out) kDa).trans hB7.out;have hq8:=(m8.block Bq (zA5 hq7.out) kDa).trans hq7.out;have hBel8:=hBel7.grown m8 hBel7.size (fun k e=>by injection e with e;subst e;exact hlow.out.1);have hR20:=zB0 (m4.take (at_+n+1));have hR21:=zEa (m4.take (at_+n+1));rw[kAe,m3,kAY kD4] at hR21;rw[← hVV.out,kBg _ V,show at_+n+1=at_+1+n from by omega] at m6;rw[show at_+n+1=at_+1+n from by omega] at hR20 hR21;have hDN:V*1000000000 ^ at_≤1000000000 ^ (at_+1+n):=by
      have h1:(1000000000:Int) ^ at_*V≤1000000000 ^ at_*1000000000 ^ n:=kAG (kBh hV3.out) (kBh (zBq at_));have h2:(1000000000:Int) ^ (at_+n)≤1000000000 ^ (at_+1+n):=pow9_le kD4;rw[← kCF,kBg] at h1;omega
     have hv8:=over_back hG.out.hqD hG.out.hqD2 hv7.out m1 m2 hR20 hR21 hDN m6;have hN:=over_next m4 (by rw[m3];omega) hV3.out (by rw[show at_+n+1=at_+1+n from by omega];exact hv8) hI2o.out hG.out.hqD2 hatq;have y0:=zB1 hq8 at_ hatq;have yf:=zA2 hq8 at_;replace hv8:=kA1 hv8;replace hN:=kA1 hN;replace m4:=kA1 m4;replace m5:=kA1 m5;replace m6:=kA1 m6;replace m7:=kA1 m7;replace hq8:=kA1 hq8;replace hB8:=kA1 hB8;go_wp2;simp only[Exit.noGoto];go_wp2;go_roundg at_
     case measure=>omega
     case rel=>exact⟨r2,qs.set at_ qq,kD4,by go_num,kA1 m3,kA1 m4.out,kA1 (by simp[hql.out]),kA1 (zD4 hqL.out _ _ (by have:=hG.out.hq1;have:=hG.out.hq0;omega)),kA1 hN.out.1,kA1 hN.out.2,kA1 (((kAf _ _ _ _).block Ba (zA5 m7.out) kDa).trans m7.out),kA1 (((kAf _ _ _ _).block Bb (zA5 hB8.out) kDa).trans hB8.out),kA1 (zBD hq8.out _ _),hBel8.setCell (p:=⟨Bq,at_,none⟩) hlow.out.2.2 _⟩
structure LN (w:World) (z:Int) (v:Value):Prop where
 out:∃(l:List Int) (A:Option Addr) (c:Nat),v=.agg #[.int .i64 (Int.sign z),.slice A l.length c]∧l.length≤c∧l.length≤1000∧U32.C w A l.length l∧Limb l∧Last l∧val l=z.natAbs
theorem LN.below {w w1:World} {z:Int} {v:Value} (h:LN w z v) (hb:Below w.heap.size w w1):LN w1 z v:=by
 obtain⟨l,A,c,h1,h2,h3,h4,h5⟩:=h.out;exact⟨l,A,c,h1,h2,h3,Kd.C_below h4 hb,h5⟩
theorem val_trim (l:List Int) (k:Nat) (h:Trim l k):val l=val (l.take k):=by
 have e:=congrArg val (kBw k l);rw[zET] at e;have hz:∀m:List Int,(∀x∈m,x=0)→val m=0:=by
  intro m
  induction m with
  | nil=>intro _;rfl
  | cons x r ih =>
   intro h;have h1:=h x (kAQ ..);have h2:=ih (fun y hy=>h y (kAM _ hy));simp only[val];omega
 have hd:val (l.drop k)=0:=hz _ (fun x hx=>by
  obtain⟨i,hi,rfl⟩:=List.getElem_of_mem hx;rw[List.getElem_drop];exact h.zero _ (by simp at hi;omega) kD4)
 rw[hd,kCx,kCM] at e;exact e.symm
theorem last_trim (l:List Int) (k:Nat) (h:Trim l k):Last (l.take k):=by
 intro i hi he;have hk:=h.le;rw[kAe,kAY hk] at he;rw[kCG];exact h.last i kD4 he
theorem sign_mul_abs {s x:Int} (hs:s=1∨s=-1) (hx:0<x):Int.sign (s*x)=s∧((s*x).natAbs:Int)=x:=by
 rcases hs with rfl | rfl
 ·rw[kCj];exact⟨kAu hx,kD4⟩
 ·rw[Int.neg_mul,kCj,Int.sign_neg,kAu hx];exact⟨rfl,kD4⟩
theorem C_cells {w:World} {A:Option Addr} {l:List Int} (h:U32.C w A l.length l) (hn:l≠[]):∃ad,A=some ad∧∀i (hi:i<l.length),w.cell? (ad.add i)=some (.int .u32 l[i]):=by
 have hp:0<l.length:=List.length_pos_iff.2 hn;obtain⟨ad,rfl,_⟩:=zEc h 0 hp;refine⟨ad,rfl,fun i hi=>?_⟩;obtain⟨ad2,e,h2⟩:=zEc h i hi;obtain rfl:ad=ad2:=by injection e
 exact h2
theorem zF3 (s:Int) (A:Option Addr) (l:List Int) (c:Nat) (w:World) (hs:s=1∨s=-1) (hn:l≠[]) (hc:l.length≤c) (hsm:l.length≤1000∨(l.length≤1001∧val l<1000000000 ^ 1000)) (hC:U32.C w A l.length l) (hl:Limb l) :
  Calls Tryz.prog 229 #[.int .i64 s,.slice A l.length c] w fun e w'=>∃v,e=.returned v∧LN w' (s*val l) v∧Below w.heap.size w w':=by
 obtain⟨ad,rfl,hcells⟩:=C_cells hC hn;refine (made_calls s ad l c w hc kD4 hcells).mono ?_;rintro e w' ⟨k,ht,rfl,hb⟩;refine⟨_,rfl,?_,hb⟩;have hv:=val_trim l k ht;have hla:=last_trim l k ht;have hk:=ht.le;have hlk:(l.take k).length=k:=by rw[kAe,kAY hk]
 by_cases h0:k=0
 ·subst h0;have hz:val l=0:=by rw[hv];rfl
  rw[hz,kCx];refine⟨[],none,0,by simp[madeV],kA2 _,kD6,Kd.C_below (w:=w) ?_ hb,(by intro x hx;cases hx),(by intro i hi;cases hi),rfl⟩;exact⟨rfl,kD6,fun h=>by simp at h⟩
 ·have hne:l.take k≠[]:=by intro e;rw[e] at hlk;simp at hlk;omega
  have hpos:0<val l:=by
   rw[hv];have:=val_ge (hl.take k) hla hne;have:=zBq ((l.take k).length-1);omega
  obtain⟨e1,e2⟩:=sign_mul_abs hs hpos;have hk1000:k≤1000:=by
   rcases hsm with h | ⟨h,h'⟩
   ·omega
   ·rcases (show k≤1000∨1000<k by omega) with h2 | h2
    ·exact h2
    ·exfalso;have h3:=val_ge (hl.take k) hla hne;rw[← hv,hlk] at h3;have h4:(1000000000:Int) ^ 1000≤1000000000 ^ (k-1):=pow9_le kD4;omega
  refine⟨l.take k,some ad,k,?_,by rw[hlk];exact kA2 _,by rw[hlk];exact hk1000,?_,hl.take k,hla,by rw[e2,hv]⟩
  ·rw[e1,hlk];unfold madeV;rw[kA9 h0]
  ·exact Kd.C_below (zEo (by rw[hlk];omega) (fun i hi=>by rw[kCG];exact hcells i (by rw[hlk] at hi;omega))) hb
theorem zCJ (a:Int):Int.sign a=0∨Int.sign a=1∨Int.sign a=-1:=by
 rcases kBb a 0 with h | h | h
 ·exact .inr (.inr (kAy h))
 ·subst h;exact .inl rfl
 ·exact .inr (.inl (kAu h))
theorem zFg (a b:Int) (ha:a=0∨a=1∨a=-1) (hb:b=0∨b=1∨b=-1) (w:World):Calls Tryz.prog 258 #[.int .i64 a,.int .i64 b] w fun e w'=>e=.returned (.int .i64 (a*b))∧w'=w:=by
 rcases ha with rfl | rfl | rfl<;>rcases hb with rfl | rfl | rfl <;>
 ·go_enter Tryz.func258,Tryz.ntmps258;go_wp2;go_ret;exact⟨rfl,rfl⟩
theorem zFL {a b q r:Int} (ha:(a.natAbs:Int)=b.natAbs*q+r) (h0:0≤r) (h1:r<b.natAbs) (hq:0≤q):a.tdiv b=Int.sign a*Int.sign b*q∧a.tmod b=Int.sign a*r:=by
 have hbn:(0:Int)<b.natAbs:=kD4
 have hd:(a.natAbs:Int) / b.natAbs=q:=by
  rw[ha,Int.add_comm,Int.add_mul_ediv_left _ _ kD4,Int.ediv_eq_zero_of_lt h0 h1];omega
 have hm:(a.natAbs:Int) % b.natAbs=r:=by
  rw[ha,Int.add_comm,Int.add_mul_emod_self_left,Int.emod_eq_of_lt h0 h1]
 have e1:(a.natAbs:Int).tdiv b.natAbs=q:=by rw[kBz kD4,hd]
 have e2:(a.natAbs:Int).tmod b.natAbs=r:=by rw[kBX kD4,hm]
 rcases kBb a 0 with ha' | ha' | ha'<;>rcases kBb b 0 with hb' | hb' | hb'
 ·rw[show (a.natAbs:Int)=-a by omega,show (b.natAbs:Int)=-b by omega] at e1 e2;rw[kAy ha',kAy hb'];rw[Int.neg_tdiv,Int.tdiv_neg] at e1;rw[Int.neg_tmod,Int.tmod_neg] at e2;constructor<;>omega
 ·omega
 ·rw[show (a.natAbs:Int)=-a by omega,show (b.natAbs:Int)=b by omega] at e1 e2;rw[kAy ha',kAu hb'];rw[Int.neg_tdiv] at e1;rw[Int.neg_tmod] at e2;constructor<;>omega
 ·subst ha';have hr0:r=0:=by rw[← e2];simp
  simp[hr0]
 ·omega
 ·subst ha';have hr0:r=0:=by rw[← e2];simp
  simp[hr0]
 ·rw[show (a.natAbs:Int)=a by omega,show (b.natAbs:Int)=-b by omega] at e1 e2;rw[kAu ha',kAy hb'];rw[Int.tdiv_neg] at e1;rw[Int.tmod_neg] at e2;constructor<;>omega
 ·omega
 ·rw[show (a.natAbs:Int)=a by omega,show (b.natAbs:Int)=b by omega] at e1 e2;rw[kAu ha',kAu hb'];constructor<;>omega
theorem LN_zero (w:World):LN w 0 (.agg #[.int .i64 0,.slice none 0 0]) :=
 ⟨[],none,0,rfl,kA2 _,kD6,⟨rfl,kD6,fun h=>by simp at h⟩,(by intro x hx;cases hx),(by intro i hi;cases hi),rfl⟩
theorem sign_abs (a:Int):Int.sign a*(a.natAbs:Int)=a:=by
 rcases kBb a 0 with h | h | h
 ·rw[kAy h];omega
 ·subst h;rfl
 ·rw[kAu h];omega
theorem zD1 {W:World} {z:Int} {v:Value} {R:Nat} {x:Int} {B:Option Addr} {n c:Nat} {t:TypeId} (h:LN W z v) (hR:W.heap[R]?=some (.cells #[.int .i64 x,.slice B n c] t (0,0))) (v0 v1:Value):LN ((W.setCell ⟨R,0,none⟩ v0).setCell ⟨R,1,none⟩ v1) z v:=by
 obtain⟨l,A,c',h1,h2,h3,h4,h5⟩:=h.out;refine⟨l,A,c',h1,h2,h3,?_,h5⟩;by_cases hn:l=[]
 ·subst hn;exact⟨h4.1,kD6,fun h=>by simp at h⟩
 ·obtain⟨ad,rfl,hc⟩:=C_cells h4 hn;refine zEo kD4 (fun i hi=>?_);have h6:=hc i hi;have hne:=num_ne h6 hR;rw[kAz _ _ _ _ (kCr hne),kAz _ _ _ _ (kCr hne)];exact h6
theorem zEM {W:World} {p q:Nat} {a0 a1 b0 b1:Value} {t u:TypeId} (v0 v1 v2 v3:Value) (hne:p≠q) (h1:W.heap[p]?=some (.cells #[a0,a1] t (0,0))) (h2:W.heap[q]?=some (.cells #[b0,b1] u (0,0))) :
  let Z:=(((W.setCell ⟨p,0,none⟩ v0).setCell ⟨p,1,none⟩ v1).setCell ⟨q,0,none⟩ v2).setCell ⟨q,1,none⟩ v3
  Z.heap[p]?=some (.cells #[v0,v1] t (0,0))∧Z.heap[q]?=some (.cells #[v2,v3] u (0,0)) :=
 ⟨(kA5 _ _ _ _ kD8).trans ((kA5 _ _ _ _ kD8).trans (zBX _ _ h1)),zBX _ _ ((kA5 _ _ _ _ kD8).trans ((kA5 _ _ _ _ kD8).trans h2))⟩
theorem quo_calls (a b:Int) (hb0:b≠0) (va vb:Value) (w:World) (ha:LN w a va) (hb:LN w b vb) :
  Calls Tryz.prog 232 #[va,vb] w fun e w'=>∃vq vr,e=.returned (.tuple #[vq,vr])∧LN w' (a.tdiv b) vq∧LN w' (a.tmod b) vr∧Below w.heap.size w w':=by
 obtain⟨la,A,ca,rfl,ha1,ha2,ha3,ha4,ha5,ha6⟩:=ha.out;obtain⟨lb,B,cb,rfl,hb1,hb2,hb3,hb4,hb5,hb6⟩:=hb.out;obtain⟨sa,hsa⟩:∃s,s=Int.sign a:=⟨_,rfl⟩;obtain⟨sb,hsb⟩:∃s,s=Int.sign b:=⟨_,rfl⟩;have ht:=zFg sa sb (hsa▸zCJ a) (hsb▸zCJ b);rw[← hsa] at ha⊢;rw[← hsb] at hb⊢;obtain⟨X,hX⟩:∃X,X=(((w.alloc (.cells #[.int .i64 sa,.slice A la.length ca] 234)).alloc (.cells #[.int .i64 sb,.slice B lb.length cb] 234)).alloc (.cells #[.int .i64 0,.slice none 0 0] 234)).alloc (.cells #[.int .i64 0,.slice none 0 0] 234):=⟨_,rfl⟩;have hbX:Below w.heap.size w X:=by rw[hX];exact ((((kA3 _ w).alloc (kA2 _) _).alloc kD6 _).alloc kDd _).alloc kDd _
 have h0:X.heap[w.heap.size]?=some (.cells #[.int .i64 sa,.slice A la.length ca] 234 (0,0)):=by rw[hX];exact (kA4 _ _ _ kDd).trans ((kA4 _ _ _ kDd).trans ((kA4 _ _ _ kD6).trans (zA4 w _)))
 have h1:X.heap[w.heap.size+1]?=some (.cells #[.int .i64 sb,.slice B lb.length cb] 234 (0,0)):=by rw[hX];exact (kA4 _ _ _ kDd).trans ((kA4 _ _ _ kD6).trans (zAD _ _ _ kD6))
 have h2:X.heap[w.heap.size+1+1]?=some (.cells #[.int .i64 0,.slice none 0 0] 234 (0,0)):=by rw[hX];exact (kA4 _ _ _ kD6).trans (zAD _ _ _ kD6)
 have h3:X.heap[w.heap.size+1+1+1]?=some (.cells #[.int .i64 0,.slice none 0 0] 234 (0,0)):=by rw[hX];exact zAD _ _ _ kD6
 have hsz:=size_list sa sb la lb A B ca cb X ha2 hb2 (Kd.C_below ha3 hbX) (Kd.C_below hb3 hbX) ha4 hb4 ha5 hb5;obtain⟨r,hr⟩:∃r,r=cmpI (val la) (val lb):=⟨_,rfl⟩;rw[← hr] at hsz;replace ha:=kA1 ha;replace hb:=kA1 hb;replace ha3:=kA1 ha3;replace hb3:=kA1 hb3;replace ha4:=kA1 ha4;replace hb4:=kA1 hb4;replace ha5:=kA1 ha5;replace hb5:=kA1 hb5;replace ha6:=kA1 ha6;replace hb6:=kA1 hb6;replace hsa:=kA1 hsa;replace hsb:=kA1 hsb;replace hr:=kA1 hr;replace ht:=kA1 ht;replace hb0:=kA1 hb0;go_enter Tryz.func232,Tryz.ntmps232;go_wp2_with fail;rw[← hX];clear hX;refine hsz.mono ?_;clear hsz;rintro e w1 ⟨rfl,hbw⟩;have k0:=zAa hbw h0;have k1:=zAa hbw h1;have k2:=zAa hbw h2;have k3:=zAa hbw h3;have hbw1:=hbX.trans (hbw.mono hbX.size);clear h0 h1 h2 h3 hbw hbX;have a0:=zA1 k0 0;have a1:=zA1 k0 1;have b0:=zA1 k1 0;have b1:=zA1 k1 1;by_cases hlt:val la<val lb
 ·have hrn:r<0:=by rw[hr.out,zCg hlt];omega
  have d0:=zA1 k2 0;have d1:=zA1 k2 1;have e0:=zA1 k3 0;have e1:=zA1 k3 1;have fd0:=zA2 k2 0;have fd1:=zA2 k2 1;have fe0:=zA2 k3 0;have fe1:=zA2 k3 1;replace hlt:=kA1 hlt;go_wp2
  go_region
  all_goals go_wp2
  all_goals
   obtain⟨q2,q3⟩:=zEM (.int .i64 0) (.slice none 0 0) (.int .i64 sa) (.slice A la.length ca) kD4 k2 k3;have qb:=(((hbw1.setCell (p:=⟨w.heap.size+1+1,0,none⟩) kD8 (.int .i64 0)).setCell (p:=⟨w.heap.size+1+1,1,none⟩) kD8 (.slice none 0 0)).setCell (p:=⟨w.heap.size+1+1+1,0,none⟩) kD8 (.int .i64 sa)).setCell (p:=⟨w.heap.size+1+1+1,1,none⟩) kD8 (.slice A la.length ca);generalize (((w1.setCell ⟨w.heap.size+1+1,0,none⟩ (.int .i64 0)).setCell ⟨w.heap.size+1+1,1,none⟩ (.slice none 0 0)).setCell ⟨w.heap.size+1+1+1,0,none⟩ (.int .i64 sa)).setCell ⟨w.heap.size+1+1+1,1,none⟩ (.slice A la.length ca)=W9 at *;have hlt':=hlt.out;rw[ha6.out,hb6.out] at hlt';have hp:=zFL (a:=a) (b:=b) (q:=0) (r:=(a.natAbs:Int)) (by rw[kCx,Int.zero_add]) kD4 hlt' kD4;rw[kCx,sign_abs] at hp;refine kAi (zEi Tryz.results232 _ _ (w.heap.size+1+1) (w.heap.size+1+1+1) 234 _ _ (0,0) (0,0) _ rfl rfl q2 q3 Tryz.underlying234 rfl zC1 zC1) rfl ⟨_,_,rfl,by rw[hp.1];exact LN_zero _,by rw[hp.2];exact ha.out.below qb.drew,qb.drew⟩
 ·have hrn:decide (r<0)=false:=by
   rw[hr.out];unfold cmpI;rw[kA9 hlt];split<;>rfl
  replace hlt:=kA1 hlt;have htw:=ht.out w1;have hlbne:lb≠[]:=by
   intro e;have:=hb6.out;rw[e] at this;have:=hb0.out;simp[val] at *;omega
  have hlen:lb.length≤la.length:=by
   rcases (show lb.length≤la.length∨la.length<lb.length by omega) with h | h
   ·exact h
   ·exact absurd (zES ha4.out hb4.out hb5.out h) hlt.out
  have hsig:Int.sign a=1∨Int.sign a=-1:=by
   rcases zCJ a with h | h
   ·exfalso;have ha0:a=0:=Int.sign_eq_zero_iff_zero.1 h;have:=ha6.out;have h2:=val_ge hb4.out hb5.out hlbne;have h3:=zBq (lb.length-1);have:=hlt.out;rw[ha0] at *;simp at *;omega
   ·exact h
  have hsigb:Int.sign b=1∨Int.sign b=-1:=by
   rcases zCJ b with h | h
   ·exact absurd (Int.sign_eq_zero_iff_zero.1 h) hb0.out
   ·exact h
  have hss:sa*sb=1∨sa*sb=-1:=by
   rw[hsa.out,hsb.out];rcases hsig with h | h<;>rcases hsigb with h' | h'<;>rw[h,h']<;>simp
  have hpos:0<lb.length:=List.length_pos_iff.2 hlbne;replace hlbne:=kA1 hlbne;replace hsig:=kA1 hsig;replace hsigb:=kA1 hsigb;replace hss:=kA1 hss;by_cases hone:lb.length=1
  ·have hone2:((lb.length:Int)==1)=true:=by rw[hone];rfl
   obtain⟨m,hm⟩:∃m,lb=[m]:=by
    match lb,hone with
    | [m],_=>exact⟨m,rfl⟩
   obtain⟨bd,hBd,hmc⟩:=zEc hb3.out 0 hpos;have hm0:lb[0]=m:=by simp[hm]
   rw[hm0,kAH] at hmc;have hmb:=hb4.out.at 0 hpos;rw[hm0] at hmb;have hmv:val lb=m:=by rw[hm];simp[val]
   have hmp:0<m:=by
    have h2:=val_ge hb4.out hb5.out hlbne.out;have h3:=zBq (lb.length-1);omega
   have hmc1:=zA0 hbw1 hmc;have hsh:=zFF la m A ca w1.drew (Kd.C_below ha3.out hbw1.drew) ha1 ha4.out hmp hmb.2 kD4;replace hm:=kA1 hm;replace hone:=kA1 hone;replace hsh:=kA1 hsh;replace hm0:=kA1 hm0;replace hmv:=kA1 hmv;subst hBd;go_wp2_with (go_at_call 258;refine htw.mono ?_;rintro e wq ⟨rfl,hq⟩;subst wq);have K:w1.drew.cell? ⟨w.heap.size,1,none⟩=some (.slice A la.length ca)∧w1.drew.cell? ⟨w.heap.size+1,1,none⟩=some (.slice (some bd) lb.length cb)∧w1.drew.cell? bd=some (.int .u32 m):=⟨a1,b1,hmc1⟩;clear a0 a1 b0 b1 hmc1 htw
   go_region_held3 (fun w':World=>w'.cell? ⟨w.heap.size,1,none⟩=some (.slice A la.length ca)∧w'.cell? ⟨w.heap.size+1,1,none⟩=some (.slice (some bd) lb.length cb)∧w'.cell? bd=some (.int .u32 m)) (first | exact K) (first
    | (go_at_call 259;refine hsh.out.mono ?_;clear hsh;rintro e w2 ⟨q,r2,Aq,cq,rfl,o3,o1,o7,o5,o8,o9,o10,o11⟩;have K:=And.intro (zA0 o11 K.1) (And.intro (zA0 o11 K.2.1) (zA0 o11 K.2.2))))
   have hbw2:=hbw1.drew.trans (o11.mono hbw1.drew.size);have K0:w2.cell? ⟨w.heap.size,0,none⟩=some (.int .i64 sa):=zA0 o11 (show w1.drew.cell? _=_ from zA1 k0 0);have j2:w2.heap[w.heap.size+1+1]?=some (.cells #[.int .i64 0,.slice none 0 0] 234 (0,0)):=zAa o11 (zAa (kA3 _ w1).drew k2);have j3:w2.heap[w.heap.size+1+1+1]?=some (.cells #[.int .i64 0,.slice none 0 0] 234 (0,0)):=zAa o11 (zAa (kA3 _ w1).drew k3);have hqne:q≠[]:=by intro e;rw[e] at o3;simp at o3;omega
   have HM1:Hid (∀W:World,Below w2.heap.size w2 W→Calls Tryz.prog 229 #[.int .i64 (sa*sb),.slice Aq la.length cq] W fun e w'=>∃s A n c,e=.returned (.agg #[.int .i64 s,.slice A n c])∧LN w' (sa*sb*val q) (.agg #[.int .i64 s,.slice A n c])∧Below W.heap.size W w'):=kA1 (fun W hW=>by
    have h:=zF3 (sa*sb) Aq q cq W hss.out hqne o1 (.inl kD4) (Kd.C_below o7 hW) o5;rw[o3] at h;refine h.mono ?_;rintro _ _ ⟨v,h1,h2,h3⟩;obtain⟨l,A,c,rfl,_⟩:=h2.out;exact⟨_,_,_,_,h1,h2,h3⟩)
   have HM2:Hid (∀(W:World) (A':Addr),W.cell? A'=some (.int .u32 r2)→Calls Tryz.prog 229 #[.int .i64 sa,.slice (some A') 1 1] W fun e w'=>∃s A n c,e=.returned (.agg #[.int .i64 s,.slice A n c])∧LN w' (sa*r2) (.agg #[.int .i64 s,.slice A n c])∧Below W.heap.size W w'):=kA1 (fun W A' hW=>by
    have h:=zF3 sa (some A') [r2] 1 W (by rw[hsa.out];exact hsig.out) kD6 kD6 (.inl kD6) (zEo kD6 (fun i hi=>by
     obtain rfl:i=0:=by simp at hi;omega
     rw[kAH];exact hW)) (by intro x hx;simp at hx;subst hx;omega)
    have hv:val [r2]=r2:=by simp[val]
    rw[hv] at h;refine h.mono ?_;rintro _ _ ⟨v,h1,h2,h3⟩;obtain⟨l,A,c,rfl,_⟩:=h2.out;exact⟨_,_,_,_,h1,h2,h3⟩)
   have hp:=zFL (a:=a) (b:=b) (q:=val q) (r:=r2) (by rw[← ha6.out,← hb6.out,hmv.out,kBg];exact o10) o8 (by rw[← hb6.out,hmv.out];exact o9) (zB0 o5);rw[← hsa.out,← hsb.out] at hp;replace hp:=kA1 hp;replace hbw2:=kA1 hbw2;clear K o1 o5 o7 o8 o9 o10 o11 k0 k1 k2 k3;go_wp2_with fail;have K:w2.drew.cell? ⟨w.heap.size,0,none⟩=some (.int .i64 sa):=K0;have J2:w2.drew.heap[w.heap.size+1+1]?=some (.cells #[.int .i64 0,.slice none 0 0] 234 (0,0)):=j2;have J3:w2.drew.heap[w.heap.size+1+1+1]?=some (.cells #[.int .i64 0,.slice none 0 0] 234 (0,0)):=j3;clear K0 j2 j3;have BC0:Hid (Below w2.heap.size w2 w2.drew):=kA1 (kA3 _ w2).drew;have HAD:Hid (Below w2.drew.heap.size w2.drew (w2.alloc (.cells #[.int .u32 r2] 270)).drew):=kA1 (by
    have h:=((kA3 w2.heap.size w2).alloc (kA2 _) (.cells #[.int .u32 r2] 270)).drew;exact⟨h.os,h.tape,h.output,h.size,h.block⟩)
   have BCA:Hid (Below w2.heap.size w2 (w2.alloc (.cells #[.int .u32 r2] 270)).drew):=kA1 ((kA3 w2.heap.size w2).alloc (kA2 _) (.cells #[.int .u32 r2] 270)).drew;have KN0:Hid ((w2.alloc (.cells #[.int .u32 r2] 270)).drew.cell? ⟨w2.heap.size,0,none⟩=some (.int .u32 r2)):=kA1 (zA1 (zA4 w2 (.cells #[.int .u32 r2] 270)) 0);have KA2:Hid (∀(W:World) (o:Obj),W.cell? ⟨w.heap.size,0,none⟩=some (.int .i64 sa)→(W.alloc o).cell? ⟨w.heap.size,0,none⟩=some (.int .i64 sa)):=kA1 (fun W o k=>zA0 ((kA3 _ _).alloc (kA2 _) _) k);have KD2:Hid (∀(W:World) (o:Obj),W.drew.cell? ⟨w.heap.size,0,none⟩=some (.int .i64 sa)→(W.alloc o).drew.cell? ⟨w.heap.size,0,none⟩=some (.int .i64 sa)):=kA1 (fun W o k=>show (W.alloc o).cell? _=_ from zA0 ((kA3 _ _).alloc (kA2 _) _) (show W.cell? _=_ from k));have KS2:Hid (∀(W:World) (v v':Value),W.cell? ⟨w.heap.size,0,none⟩=some (.int .i64 sa)→((W.setCell ⟨w.heap.size+1+1,0,none⟩ v).setCell ⟨w.heap.size+1+1,1,none⟩ v').cell? ⟨w.heap.size,0,none⟩=some (.int .i64 sa)):=kA1 (fun W v v' k=>by
    rw[kAz _ _ _ _ kDd,kAz _ _ _ _ kDd];exact k)
   have KS3:Hid (∀(W:World) (v v':Value),W.cell? ⟨w.heap.size,0,none⟩=some (.int .i64 sa)→((W.setCell ⟨w.heap.size+1+1+1,0,none⟩ v).setCell ⟨w.heap.size+1+1+1,1,none⟩ v').cell? ⟨w.heap.size,0,none⟩=some (.int .i64 sa)):=kA1 (fun W v v' k=>by
    rw[kAz _ _ _ _ kDd,kAz _ _ _ _ kDd];exact k)
   go_region_held3 (fun w':World=>w'.cell? ⟨w.heap.size,0,none⟩=some (.int .i64 sa)) (first | with_reducible exact K | with_reducible exact KA2.out _ _ K | with_reducible exact KD2.out _ _ K | with_reducible exact KS2.out _ _ _ K | with_reducible exact KS3.out _ _ _ (KS2.out _ _ _ K) | with_reducible exact KS3.out _ _ _ K) (first
    | (go_at_call 229;refine (HM1.out _ BC0.out).mono ?_;clear HM1;rintro e wr ⟨s1,A1,n1,c1,rfl,L1,hq⟩;have K:=zA0 hq K;have J2:=zAa hq J2;have J3:=zAa hq J3;have BC:=BC0.out.trans (hq.mono kD6))
    | (go_at_call 229;refine (HM1.out _ BCA.out).mono ?_;clear HM1;rintro e wr ⟨s1,A1,n1,c1,rfl,L1,hq⟩;have KN:=zA0 hq KN0.out;have hal:=HAD.out.trans (hq.mono kD6);have K:=zA0 hal K;have J2:=zAa hal J2;have J3:=zAa hal J3;have BC:=BCA.out.trans (hq.mono kD6))
    | (go_at_call 229;refine (HM2.out _ _ (zA1 (zA4 _ _) 0)).mono ?_;rintro e wr ⟨s2,A2,n2,c2,rfl,L2,hq⟩;have hal:=(kA3 _ _).alloc (kA2 _) (.cells #[.int .u32 r2] 270) |>.trans (hq.mono kD6);have K:=zA0 hal K;have L1:=L1.below hal;have BC:=BC.trans (hal.mono BC.size);have J2:=zAa hal J2;have J3:=zAa hal J3;have d20:=zA1 J2 0;have d21:=zA1 J2 1;have e20:=zA2 J2 0;have e21:=zA2 J2 1;have d30:=zA1 J3 0;have d31:=zA1 J3 1;have e30:=zA2 J3 0;have e31:=zA2 J3 1)
    | (go_at_call 229;refine (HM2.out _ _ KN).mono ?_;rintro e wr ⟨s2,A2,n2,c2,rfl,L2,hal⟩;have K:=zA0 hal K;have L1:=L1.below hal;have BC:=BC.trans (hal.mono BC.size);have J2:=zAa hal J2;have J3:=zAa hal J3;have d20:=zA1 J2 0;have d21:=zA1 J2 1;have e20:=zA2 J2 0;have e21:=zA2 J2 1;have d30:=zA1 J3 0;have d31:=zA1 J3 1;have e30:=zA2 J3 0;have e31:=zA2 J3 1))
   all_goals go_wp2
   all_goals
    obtain⟨q2,q3⟩:=zEM (.int .i64 s1) (.slice A1 n1 c1) (.int .i64 s2) (.slice A2 n2 c2) kD4 J2 J3;have j3:((wr.setCell ⟨w.heap.size+1+1,0,none⟩ (.int .i64 s1)).setCell ⟨w.heap.size+1+1,1,none⟩ (.slice A1 n1 c1)).heap[w.heap.size+1+1+1]?=some (.cells #[.int .i64 0,.slice none 0 0] 234 (0,0)):=(kA5 _ _ _ _ kD6).trans ((kA5 _ _ _ _ kD6).trans J3);have L1':=zD1 (zD1 L1 J2 (.int .i64 s1) (.slice A1 n1 c1)) j3 (.int .i64 s2) (.slice A2 n2 c2);have L2':=zD1 (zD1 L2 J2 (.int .i64 s1) (.slice A1 n1 c1)) j3 (.int .i64 s2) (.slice A2 n2 c2);have hbr:=hbw2.out.trans (BC.mono hbw2.out.size);have qb:=(((hbr.setCell (p:=⟨w.heap.size+1+1,0,none⟩) kD8 (.int .i64 s1)).setCell (p:=⟨w.heap.size+1+1,1,none⟩) kD8 (.slice A1 n1 c1)).setCell (p:=⟨w.heap.size+1+1+1,0,none⟩) kD8 (.int .i64 s2)).setCell (p:=⟨w.heap.size+1+1+1,1,none⟩) kD8 (.slice A2 n2 c2);generalize (((wr.setCell ⟨w.heap.size+1+1,0,none⟩ (.int .i64 s1)).setCell ⟨w.heap.size+1+1,1,none⟩ (.slice A1 n1 c1)).setCell ⟨w.heap.size+1+1+1,0,none⟩ (.int .i64 s2)).setCell ⟨w.heap.size+1+1+1,1,none⟩ (.slice A2 n2 c2)=W9 at *;refine kAi (zEi Tryz.results232 _ _ (w.heap.size+1+1) (w.heap.size+1+1+1) 234 _ _ (0,0) (0,0) _ rfl rfl q2 q3 Tryz.underlying234 rfl zC1 zC1) rfl ⟨_,_,rfl,by rw[hp.out.1];exact L1',by rw[hp.out.2];exact L2',qb⟩
  ·have hone2:((lb.length:Int)==1)=false:=zAF kD4;have hov:=over_calls la lb A B ca cb w1 (Kd.C_below ha3.out hbw1) (Kd.C_below hb3.out hbw1) ha4.out hb4.out hb5.out kD4 hlen ha2;replace hone:=kA1 hone;replace hov:=kA1 hov;go_wp2_with (go_at_call 258;refine htw.mono ?_;rintro e wq ⟨rfl,hq⟩;subst wq);refine hov.out.mono ?_;clear hov htw;rintro e w2 ⟨q,r2,Bq,cq,Ar,cr,rfl,o1,o2,o3,o3',o4,o5,o6,o7,o8,o9,o10,o11⟩;have k0:=zAa o11 k0;have k2:=zAa o11 k2;have k3:=zAa o11 k3;have hbw2:=hbw1.trans (o11.mono hbw1.size);have K:w2.cell? ⟨w.heap.size,0,none⟩=some (.int .i64 sa):=zA1 k0 0;have hqp:val q<1000000000 ^ 1000:=by
    have h1:=zEa ha4.out;have h2:(1000000000:Int) ^ la.length≤1000000000 ^ 1000:=pow9_le ha2;have h3:=zB0 o5;have h4:=zB0 o6;have h5:=val_ge hb4.out hb5.out hlbne.out;have h6:=zBq (lb.length-1);have h7:1*val q≤val lb*val q:=kB9 kD4 h3;omega
   have HM1:Hid (∀W:World,Below w2.heap.size w2 W→Calls Tryz.prog 229 #[.int .i64 (sa*sb),.slice (some ⟨Bq,0,none⟩) q.length cq] W fun e w'=>∃s A n c,e=.returned (.agg #[.int .i64 s,.slice A n c])∧LN w' (sa*sb*val q) (.agg #[.int .i64 s,.slice A n c])∧Below W.heap.size W w'):=kA1 (fun W hW=>(zF3 (sa*sb) _ q cq W hss.out (by intro e;rw[e] at o3;simp at o3) o1 (.inr ⟨o3',hqp⟩) (by have:=limbs_C (n:=q.length) kD4 (zAa hW o7) (kA2 _);rwa [kB6] at this) o5).mono fun _ _ ⟨v,h1,h2,h3⟩=>by
    obtain⟨l,A,c,rfl,_⟩:=h2.out;exact⟨_,_,_,_,h1,h2,h3⟩)
   have HM2:Hid (∀W:World,Below w2.heap.size w2 W→Calls Tryz.prog 229 #[.int .i64 sa,.slice Ar r2.length cr] W fun e w'=>∃s A n c,e=.returned (.agg #[.int .i64 s,.slice A n c])∧LN w' (sa*val r2) (.agg #[.int .i64 s,.slice A n c])∧Below W.heap.size W w'):=kA1 (fun W hW=>(zF3 sa _ r2 cr W (by rw[hsa.out];exact hsig.out) (by intro e;rw[e] at o4;simp at o4;omega) o2 (.inl kD4) (Kd.C_below o8 hW) o6).mono fun _ _ ⟨v,h1,h2,h3⟩=>by
    obtain⟨l,A,c,rfl,_⟩:=h2.out;exact⟨_,_,_,_,h1,h2,h3⟩)
   have hp:=zFL (a:=a) (b:=b) (q:=val q) (r:=val r2) (by rw[← ha6.out,← hb6.out];exact o9) (zB0 o6) (by rw[← hb6.out];exact o10) (zB0 o5);rw[← hsa.out,← hsb.out] at hp;replace hp:=kA1 hp;clear o1 o2 o3 o3' o4 o5 o6 o7 o8 o9 o10 hqp;have BC:Below w2.heap.size w2 w2.drew:=(kA3 _ w2).drew;have HBW:=kA1 hbw2.drew;have K2:Hid (∀(W:World) (v v':Value),W.cell? ⟨w.heap.size,0,none⟩=some (.int .i64 sa)→((W.setCell ⟨w.heap.size+1+1,0,none⟩ v).setCell ⟨w.heap.size+1+1,1,none⟩ v').cell? ⟨w.heap.size,0,none⟩=some (.int .i64 sa)):=kA1 (fun W v v' k=>by
    rw[kAz _ _ _ _ kDd,kAz _ _ _ _ kDd];exact k)
   have K3:Hid (∀(W:World) (v v':Value),W.cell? ⟨w.heap.size,0,none⟩=some (.int .i64 sa)→((W.setCell ⟨w.heap.size+1+1+1,0,none⟩ v).setCell ⟨w.heap.size+1+1+1,1,none⟩ v').cell? ⟨w.heap.size,0,none⟩=some (.int .i64 sa)):=kA1 (fun W v v' k=>by
    rw[kAz _ _ _ _ kDd,kAz _ _ _ _ kDd];exact k)
   have J2:=k2;have J3:=k3;clear k2 k3 k0;go_wp2_with fail;replace K:w2.drew.cell? ⟨w.heap.size,0,none⟩=some (.int .i64 sa):=K
   go_region_held3 (fun w':World=>w'.cell? ⟨w.heap.size,0,none⟩=some (.int .i64 sa)) (first | with_reducible exact K | with_reducible exact K2.out _ _ _ K | with_reducible exact K3.out _ _ _ (K2.out _ _ _ K) | with_reducible exact K2.out _ _ _ (K3.out _ _ _ K) | with_reducible exact K3.out _ _ _ K) (first
    | (go_at_call 229;refine (HM1.out _ BC).mono ?_;clear HM1;rintro e wr ⟨s1,A1,n1,c1,rfl,L1,q1⟩;have K:=zA0 q1 K;have BC:=BC.trans (q1.mono BC.size);have J2:=zAa q1 J2;have J3:=zAa q1 J3;have d20:=zA1 J2 0;have d21:=zA1 J2 1;have e20:=zA2 J2 0;have e21:=zA2 J2 1;have d30:=zA1 J3 0;have d31:=zA1 J3 1;have e30:=zA2 J3 0;have e31:=zA2 J3 1;try (have L2:=L2.below q1))
    | (go_at_call 229;refine (HM2.out _ BC).mono ?_;clear HM2;rintro e wr ⟨s2,A2,n2,c2,rfl,L2,q2⟩;have K:=zA0 q2 K;have BC:=BC.trans (q2.mono BC.size);have J2:=zAa q2 J2;have J3:=zAa q2 J3;have d20:=zA1 J2 0;have d21:=zA1 J2 1;have e20:=zA2 J2 0;have e21:=zA2 J2 1;have d30:=zA1 J3 0;have d31:=zA1 J3 1;have e30:=zA2 J3 0;have e31:=zA2 J3 1;try (have L1:=L1.below q2)))
   all_goals go_wp2
   all_goals
    obtain⟨q2,q3⟩:=zEM (.int .i64 s1) (.slice A1 n1 c1) (.int .i64 s2) (.slice A2 n2 c2) kD4 J2 J3;have j3:((wr.setCell ⟨w.heap.size+1+1,0,none⟩ (.int .i64 s1)).setCell ⟨w.heap.size+1+1,1,none⟩ (.slice A1 n1 c1)).heap[w.heap.size+1+1+1]?=some (.cells #[.int .i64 0,.slice none 0 0] 234 (0,0)):=(kA5 _ _ _ _ kD6).trans ((kA5 _ _ _ _ kD6).trans J3);have L1':=zD1 (zD1 L1 J2 (.int .i64 s1) (.slice A1 n1 c1)) j3 (.int .i64 s2) (.slice A2 n2 c2);have L2':=zD1 (zD1 L2 J2 (.int .i64 s1) (.slice A1 n1 c1)) j3 (.int .i64 s2) (.slice A2 n2 c2);have hbr:=hbw2.trans (BC.mono hbw2.size);have qb:=(((hbr.setCell (p:=⟨w.heap.size+1+1,0,none⟩) kD8 (.int .i64 s1)).setCell (p:=⟨w.heap.size+1+1,1,none⟩) kD8 (.slice A1 n1 c1)).setCell (p:=⟨w.heap.size+1+1+1,0,none⟩) kD8 (.int .i64 s2)).setCell (p:=⟨w.heap.size+1+1+1,1,none⟩) kD8 (.slice A2 n2 c2);generalize (((wr.setCell ⟨w.heap.size+1+1,0,none⟩ (.int .i64 s1)).setCell ⟨w.heap.size+1+1,1,none⟩ (.slice A1 n1 c1)).setCell ⟨w.heap.size+1+1+1,0,none⟩ (.int .i64 s2)).setCell ⟨w.heap.size+1+1+1,1,none⟩ (.slice A2 n2 c2)=W9 at *;refine kAi (zEi Tryz.results232 _ _ (w.heap.size+1+1) (w.heap.size+1+1+1) 234 _ _ (0,0) (0,0) _ rfl rfl q2 q3 Tryz.underlying234 rfl zC1 zC1) rfl ⟨_,_,rfl,by rw[hp.out.1];exact L1',by rw[hp.out.2];exact L2',qb⟩
def zCr:Nat→ByteArray→List ByteArray
 | 0,_=>[]
 | k+1,t=>if t.size=0 then [] else t.extract (t.size-9) t.size :: zCr k (t.extract 0 (t.size-9))
def zBg (s:ByteArray):List ByteArray:=zCr (s.size+1) s
theorem chunkF_length (k:Nat):∀t,(zCr k t).length≤k:=by
 induction k with
 | zero=>intro t;exact kA2 _
 | succ k ih =>
  intro t;rw[zCr];split
  ·simp
  ·rw[List.length_cons];have:=ih (t.extract 0 (t.size-9));omega
theorem chunksN_in (n l:Nat) (box:Addr) (s:ByteArray) (hs:s.size≤2147483648) (W:World) (J:List ByteArray→World→Prop) (hbox:W.cell? box=some (.string s))
  (hJ:∀pre A u,J pre A→J pre (A.setCell box (.string u)))
  (hY:∀pre t A,J pre A→(∃rest,zBg s=pre++t :: rest)→YieldAt Fence.wide (n-1) Tryz.prog l #[.string t] A fun e B=>e=.returned (.bool true)∧J (pre++[t]) B∧B.cell? box=A.cell? box∧B.frozen? box=false)
  (h0:J [] W) :
  CallsIn Fence.wide n Tryz.prog 257 #[.func (.yield l) #[] #[],.pointer (some box)] W fun e W'=>e=.returned (.tuple #[])∧J (zBg s) W':=by
 have hD:Fence.wide.depth.isSome=false:=rfl;have HJ:=kA1 hJ;have HY:=kA1 hY;have H0:=kA1 h0;clear hJ hY h0;refine kCB Tryz.func257 rfl trivial ?_ rfl;simp only[Tryz.ntmps257,kAb,List.length_cons,List.length_nil,Nat.reduceAdd,Nat.reduceSub,kB2,Array.replicate_zero,kBk,kAR,List.nil_append,List.cons_append]
 gi_wp2
 gi_loopg [] (s.size+1) (fun k wr=>∃pre t,t.size<k∧t.size≤2147483648∧wr.cell? box=some (.string t)∧Hid (J pre wr)∧Hid (zBg s=pre++zCr k t))
 case atStart=>exact⟨[],s,kD4,hs,hbox,H0,kA1 rfl⟩
 case round =>
  clear hbox H0;obtain⟨pre,t,htk,hts,hbx,HJ1,HC⟩:=hrel
  cases gk with
  | zero=>omega
  | succ m =>
   by_cases h0:0<t.size
   ·have hpos:decide (0<(t.size:Int))=true:=kA8 kD4;have hpos2:decide (0<t.size)=true:=kA8 h0;have Hun:Hid (zCr (m+1) t=t.extract (t.size-9) t.size :: zCr m (t.extract 0 (t.size-9))):=kA1 (by rw[zCr,kA9 kD4]);obtain⟨a,ha⟩:∃a,a=t.size-9:=⟨_,rfl⟩;have hmax:max 0 ((t.size:Int)-9)=(a:Int):=kD4
    have hal:a≤t.size:=kD4
    have ham:a<m:=kD4
    rw[← ha] at Hun;have Hfull:Hid (zBg s=pre++t.extract a t.size :: zCr m (t.extract 0 a)):=kA1 (by rw[HC.out,Hun.out]);replace ha:=kA1 ha;clear h0;obtain⟨fn,tmps,assign,body,hy,hR⟩:=HY.out pre (t.extract a t.size) wr HJ1.out ⟨_,Hfull.out⟩
    gi_wp2
    refine hR.mono ?_;rintro e B ⟨rfl,hJ2,hb,hf⟩;rw[hbx] at hb;have HJ2:=kA1 hJ2;clear hR hy hbx hJ2
    gi_wp2
    gi_roundg m
    case measure=>omega
    case rel=>exact⟨pre++[t.extract a t.size],t.extract 0 a,kD8,kD8,World.cell?_setCell_same _ _ _ hb,kA1 (HJ.out _ _ _ HJ2.out),kA1 (by rw[Hfull.out,kBl];rfl)⟩
   ·have hpos:decide (0<(t.size:Int))=false:=kAc kD4;have hpos2:decide (0<t.size)=false:=kAc h0;have Hfull:Hid (zBg s=pre):=kA1 (by rw[HC.out,zCr,kAa kD4,kCi]);clear h0
    gi_wp2
    refine kBf (kB4 rfl _ _ _) rfl ⟨rfl,?_⟩;rw[Hfull.out];exact HJ1.out
theorem zDa {n:Nat} {g:Operand} {p:Tmp} {assign body:Code} {Q:Exit→Act→World→Prop} {a:Act} {w:World} {bb:Nat} {s:ByteArray} (tm:ByteArray→Array Value)
  (hg:a.eval g=.func (.func 257) #[] #[.pointer (some ⟨bb,0,none⟩)]) (hs:s.size≤2147483648) (hbox:w.heap[bb]?=some (.cells #[.string s] 9 (0,0)))
  (I:List ByteArray→World→Prop) (hI:∀pre A B k,I pre A→(k=w.heap.size+1∨k=bb)→A.grownBy B (some k)→I pre B) (h0:I [] w)
  (hI1:∀A B,I [] A→A.grownBy B none→I [] B)
  (hassign:∀(l:Nat) (t:ByteArray) (A:World) (K:Act→World→Prop),K { tmps:=tm t,defers:=[] } A →
   assign.wpIn (Fence.wide.inRound l) (n-1-1) Tryz.prog (Exit.then K (fun _ _ _=>False)) { tmps:=a.tmps.setIfInBounds p (.string t),defers:=[] } A)
  (hbody:∀(pre:List ByteArray) (t:ByteArray) (A W0:World),I pre A→(∃rest,zBg s=pre++t :: rest)→w.heap.size+2≤A.heap.size→A.grownBy W0 (some (w.heap.size+1))→W0.heap.size=A.heap.size →
   body.wpIn (Fence.wide.inRound (w.heap.size+1)) (n-1-1) Tryz.prog (chunkPost bb (I (pre++[t])) W0) { tmps:=tm t,defers:=[] } W0)
  (hdone:∀(W:World),I (zBg s) W→W.heap[w.heap.size]?=some (.deferred (some []))→Q .normal { a with defers:={ target:=.collected w.heap.size,args:=#[] } :: a.defers } W) :
  (Code.rangeFunc g #[p] assign body).wpIn Fence.wide n Tryz.prog Q a w:=by
 refine wpIn_rangeFunc ?_;intro fn _;obtain⟨rec,hrec⟩:∃rec:LoopState→Option Code→Loop,rec=fun st pe=>{ state:=st,pending:=pe,fn,tmps:=a.tmps,params:=#[p],assign,body,defers:=w.heap.size }:=⟨_,rfl⟩
 obtain⟨W1,hW1⟩:∃W1,(w.alloc (.deferred (some []))).alloc (.loop (rec .ready none))=W1:=⟨_,rfl⟩;have hsz1:W1.heap.size=w.heap.size+2:=by rw[← hW1];simp
 have hL1:W1.heap[w.heap.size+1]?=some (.loop (rec .ready none)):=by
  rw[← hW1];have:=kBQ (w.alloc (.deferred (some []))) (.loop (rec .ready none));rwa [kAw] at this
 have hK1:W1.heap[w.heap.size]?=some (.deferred (some [])):=by
  rw[← hW1];exact (kA4 _ _ _ kD6).trans (kBQ w _)
 have hbl:=zA5 hbox;have hg1:w.grownBy W1 none:=by rw[← hW1];exact zCo _ _ _ _
 have hb1:W1.heap[bb]?=some (.cells #[.string s] 9 (0,0)):=(hg1.block _ hbl kD6).trans hbox;refine⟨w.heap.size+1,[{ target:=.collected w.heap.size,args:=#[] }],W1,{ target:=.fn (.func 257) #[.pointer (some ⟨bb,0,none⟩)],args:=#[.func (.yield (w.heap.size+1)) #[] #[]] },W1,257,
  #[.func (.yield (w.heap.size+1)) #[] #[],.pointer (some ⟨bb,0,none⟩)],W1,?_,?_,?_,?_,zER,?_⟩
 ·rw[← hW1,hrec];exact run_enterLoop_outer _ _ _ _ _
 ·simp only[resolve,hg];simp[go_sem]
 ·intro f' _;trivial
 ·simp only[invoke];simp[go_sem]
 ·refine (chunksN_in (n-1) (w.heap.size+1) ⟨bb,0,none⟩ s hs W1
   (fun pre W=>I pre W∧W.heap[w.heap.size+1]?=some (.loop (rec .ready none))∧W.heap[w.heap.size]?=some (.deferred (some []))∧∃u,W.heap[bb]?=some (.cells #[.string u] 9 (0,0))) (zA1 hb1 0) ?_ ?_ ⟨hI1 _ _ h0 hg1,hL1,hK1,s,hb1⟩).mono ?_
  ·rintro pre A u⟨hi,hl,hk,u0,hu⟩;exact⟨hI _ _ _ _ hi (.inr rfl) (kAf _ _ _ _),(kA5 _ _ _ _ kD8).trans hl,(kA5 _ _ _ _ kD8).trans hk,u,zA8 hu 0 _⟩
  ·rintro pre t A⟨hi,hl,hk,u,hu⟩ hrest;have hlA:=zA5 hl;have hy:=run_yield (P:=Tryz.prog) (args:=#[.string t]) hl (by rw[hrec];rfl);rw[hrec] at hy;refine⟨fn,_,assign,body,hy,roundIn_of_wpIn trivial ?_⟩;have hzip:(#[p].zip #[Value.string t]).foldl (fun tmps (x:Tmp×Value)=>tmps.setIfInBounds x.1 x.2) a.tmps=a.tmps.setIfInBounds p (.string t):=kD6
   show assign.wpIn _ _ _ _ { tmps:=(#[p].zip #[Value.string t]).foldl (fun tmps (x:Tmp×Value)=>tmps.setIfInBounds x.1 x.2) a.tmps,defers:=[] } _;rw[hzip];refine hassign _ t _ _ ?_;refine⟨_,run_beginRound hl (by rw[hrec]),?_⟩;obtain⟨W0,hW0⟩:∃W0,W0=A.putObj (w.heap.size+1) (.loop { rec .ready none with state:=.busy }):=⟨_,rfl⟩;show Code.wpIn _ _ _ body _ _ (A.putObj (w.heap.size+1) (.loop { rec .ready none with state:=.busy }));rw[← hW0];have hgr0:A.grownBy W0 (some (w.heap.size+1)):=by rw[hW0];exact zAz _ _ _
   have hz0:W0.heap.size=A.heap.size:=by rw[hW0];simp
   have hl2:W0.heap[w.heap.size+1]?=some (.loop { rec .ready none with state:=.busy }):=by rw[hW0];exact kBe hlA
   have hk2:W0.heap[w.heap.size]?=some (.deferred (some [])):=(hgr0.block _ kD4 kDa).trans hk;have hb2:W0.heap[bb]?=some (.cells #[.string u] 9 (0,0)):=(hgr0.block _ kD4 kDa).trans hu;refine wpIn_mono (hbody pre t A W0 hi hrest kD4 hgr0 hz0) ?_;rintro e a3 W3 hp
   cases e with
   | normal =>
    obtain⟨hk3,hi3,hbb⟩:=hp;have hl3:=hk3.same _ _ hl2 rfl;have hd3:=hk3.same _ _ hk2 rfl;have hr:=run_endRound (P:=Tryz.prog) none hl3;rw[hrec] at hr hl3;have hb3:(W3.putObj (w.heap.size+1) (.loop (rec .ready none))).heap[bb]?=some (.cells #[.string u] 9 (0,0)):=(kAq kD4).trans (hbb.trans hb2);rw[hrec] at hb3;have hbA:=zA1 hu 0;refine⟨_,_,hr,rfl,⟨hI _ _ _ _ hi3 (.inl rfl) (zAz _ _ _),?_,(kAq kD4).trans hd3,u,hb3⟩,(zA1 hb3 0).trans hbA.symm,zA2 hb3 0⟩;rw[hrec];exact kBe (zA5 hl3)
   | ret=>exact hp.elim
   | exit id=>exact hp.elim
   | goto t=>exact hp.elim
   | panic ch=>exact hp.elim
   | outgrown=>exact hp.elim
  ·rintro e W2⟨rfl,hi,hl,hk,_⟩;have he:=run_endLoop (P:=Tryz.prog) hl kDH;rw[hrec] at he;exact⟨none,_,he,hdone _ (hI _ _ _ _ hi (.inl rfl) (zAz _ _ _)) ((kAq kD4).trans hk)⟩
def decF (acc:Nat) (l:List UInt8):Nat:=l.foldl (fun a c=>a*10+(c.toNat-48)) acc
def decV (l:List UInt8):Nat:=decF 0 l
def Digs (l:List UInt8):Prop:=∀c∈l,48≤c.toNat∧c.toNat≤57
theorem zFw (acc:Nat):decF acc []=acc:=id (Eq.refl _)
theorem zCY (acc:Nat) (c:UInt8) (r:List UInt8):decF acc (c :: r)=decF (acc*10+(c.toNat-48)) r:=id (Eq.refl _)
theorem step_mul (acc d B X:Nat):(acc*10+d)*B+X=acc*(B*10)+((0*10+d)*B+X):=by
 rw[kCW,kAZ,kAv,Nat.mul_assoc acc,Nat.mul_comm 10 B];omega
theorem zGa:∀(l:List UInt8) (acc:Nat),decF acc l=acc*10 ^ l.length+decF 0 l
 | [],acc=>by rw[zFw,zFw];show acc=acc*1+0;omega
 | c :: r,acc=>by
  rw[zCY,zCY,List.length_cons,zGa r (acc*10+(c.toNat-48)),zGa r (0*10+(c.toNat-48)),Nat.pow_succ];exact step_mul _ _ _ _
theorem decF_app:∀(a b:List UInt8) (acc:Nat),decF acc (a++b)=decF (decF acc a) b
 | [],b,acc=>by rw[List.nil_append,zFw]
 | c :: r,b,acc=>by rw[List.cons_append,zCY,zCY];exact decF_app r b _
theorem decV_app (a b:List UInt8):decV (a++b)=decV a*10 ^ b.length+decV b:=by
 unfold decV;rw[decF_app,zGa b (decF 0 a)]
theorem Digs.tail {c:UInt8} {r:List UInt8} (h:Digs (c :: r)):Digs r:=fun x hx=>h x (kAM _ hx)
theorem Digs.take {l:List UInt8} (h:Digs l) (n:Nat):Digs (l.take n):=fun x hx=>h x (kCo hx)
theorem Digs.drop {l:List UInt8} (h:Digs l) (n:Nat):Digs (l.drop n):=fun x hx=>h x (List.mem_of_mem_drop hx)
theorem decV_cons (c:UInt8) (r:List UInt8):decV (c :: r)=(c.toNat-48)*10 ^ r.length+decV r:=by
 unfold decV;rw[zCY,zGa,kAZ,kAv]
theorem zG9:∀{l:List UInt8},Digs l→decV l<10 ^ l.length
 | [],_=>by show 0<1;omega
 | c :: r,h=>by
  have h1:=zG9 (l:=r) h.tail;have h2:=h c (kAQ ..);rw[decV_cons,List.length_cons,Nat.pow_succ];generalize 10 ^ r.length=B at *;have h3:(c.toNat-48)*B≤9*B:=kBi _ kD4;omega
theorem parse_dec:∀(l:List UInt8) (acc:Nat),Digs l→decF acc l<1844674407370955162→Lib.parseUint10 acc l=.ok (decF acc l)
 | [],acc,_,_=>by rw[zFw];rfl
 | c :: r,acc,hd,hlt=>by
  have h2:=hd c (kAQ ..);have hlt':decF (acc*10+(c.toNat-48)) r<1844674407370955162:=by rwa [zCY] at hlt
  have hmono:acc*10+(c.toNat-48)≤decF (acc*10+(c.toNat-48)) r:=by
   rw[zGa];have h1:0<10 ^ r.length:=Nat.pow_pos kD4;generalize 10 ^ r.length=B at *;generalize acc*10+(c.toNat-48)=y at *;have:=Nat.mul_le_mul_left y h1;omega
  have ih:=parse_dec r (acc*10+(c.toNat-48)) hd.tail hlt';rw[Lib.parseUint10,kAa h2,kA9 kD4,kA9 kD4,zCY];exact ih
theorem atoi_dec {l:List UInt8} (h:Digs l) (h0:l≠[]) (h9:l.length≤9):Lib.atoiAll l=.ok (decV l:Int):=by
 have hlt:=zG9 h;have h10:10 ^ l.length≤10 ^ 9:=kCp kD4 h9;have hp:=parse_dec l 0 h (by show decV l<_;omega)
 cases l with
 | nil=>exact absurd rfl h0
 | cons c r =>
  have h2:=h c (kAQ ..);unfold Lib.atoiAll;simp only;rw[kA9 kD4];unfold Lib.parseMag;rw[kA9 kD6,hp];have e1:¬c.toNat=45:=kD4
  simp only[e1,not_false_eq_true,true_and,false_and,kCL];show (if 9223372036854775808≤decV (c :: r) then _ else _)=_;rw[kA9 kD4];rfl
def zBB (cs:List ByteArray):List Int:=cs.map fun c=>(decV c.data.toList:Int)
theorem extract_lo (t:ByteArray) (a:Nat):(t.extract 0 a).data.toList=t.data.toList.take a:=by
 rw[kBj,kBZ,Nat.sub_zero]
theorem extract_hi (t:ByteArray) (a:Nat):(t.extract a t.size).data.toList=t.data.toList.drop a:=by
 rw[kBj];exact kBE kD6
theorem chunk_num (t:ByteArray) (h:Digs t.data.toList) (h0:t.size≠0):Digs (t.extract (t.size-9) t.size).data.toList∧(t.extract (t.size-9) t.size).data.toList≠[]∧(t.extract (t.size-9) t.size).data.toList.length≤9:=by
 rw[extract_hi];have hl:t.data.toList.length=t.size:=rfl;refine⟨h.drop _,?_,?_⟩
 ·intro e;have:=congrArg List.length e;rw[kAm,hl] at this;simp at this;omega
 ·rw[kAm,hl];omega
theorem chunks_val (k:Nat):∀t:ByteArray,Digs t.data.toList→t.size<k→val (zBB (zCr k t))=decV t.data.toList∧Limb (zBB (zCr k t))∧∀c∈zCr k t,Digs c.data.toList∧c.data.toList≠[]∧c.data.toList.length≤9:=by
 induction k with
 | zero=>intro t _ h;omega
 | succ k ih =>
  intro t hd hk;have hl:t.data.toList.length=t.size:=rfl;rw[zCr];by_cases h0:t.size=0
  ·rw[kAa h0];have e:t.data.toList=[]:=kAK h0;refine⟨by rw[e];rfl,fun x hx=>by simp[zBB] at hx,fun c hc=>by simp at hc⟩
  ·rw[kA9 h0];have hc:=chunk_num t hd h0;have hlo:(t.extract 0 (t.size-9)).data.toList=t.data.toList.take (t.size-9):=extract_lo _ _;have hhi:(t.extract (t.size-9) t.size).data.toList=t.data.toList.drop (t.size-9):=extract_hi _ _;have hsz:(t.extract 0 (t.size-9)).size<k:=kD8
   obtain⟨i1,i2,i3⟩:=ih _ (by rw[hlo];exact hd.take _) hsz;have hlt:=zG9 hc.1;have h10:10 ^ (t.extract (t.size-9) t.size).data.toList.length≤10 ^ 9:=kCp kD4 hc.2.2;refine⟨?_,?_,?_⟩
   ·show val ((decV (t.extract (t.size-9) t.size).data.toList:Int) :: zBB (zCr k (t.extract 0 (t.size-9))))=_;simp only[val];rw[i1,hlo,hhi];have e:=decV_app (t.data.toList.take (t.size-9)) (t.data.toList.drop (t.size-9));rw[kBw,kAm,hl] at e;rw[e];by_cases h9:t.size≤9
    ·have e0:t.size-9=0:=kD4
     rw[e0,List.take_zero];have:decV ([]:List UInt8)=0:=rfl;rw[this];generalize decV (List.drop 0 t.data.toList)=b;omega
    ·rw[show t.size-(t.size-9)=9 by omega];generalize decV (List.take (t.size-9) t.data.toList)=a;generalize decV (List.drop (t.size-9) t.data.toList)=b;have h9:(10:Nat) ^ 9=1000000000:=rfl;rw[h9];omega
   ·intro x hx;rcases kAO.1 (show x∈(decV (t.extract (t.size-9) t.size).data.toList:Int) :: zBB (zCr k (t.extract 0 (t.size-9))) from hx) with rfl | hx
    ·constructor<;>omega
    ·exact i2 x hx
   ·intro c hcm;rcases kAO.1 hcm with rfl | hcm
    ·exact hc
    ·exact i3 c hcm
theorem chunksOf_val {s:ByteArray} (h:Digs s.data.toList):val (zBB (zBg s))=decV s.data.toList∧Limb (zBB (zBg s))∧∀c∈zBg s,Digs c.data.toList∧c.data.toList≠[]∧c.data.toList.length≤9 :=
 chunks_val _ s h (Nat.lt_succ_self _)
theorem chunksOf_ne {s:ByteArray} (h:0<s.size):zBB (zBg s)≠[]:=by
 unfold zBg;rw[zCr,kA9 kD4];simp[zBB]
end Go.Proofs.YtjaobihcdkjmbaaGreatDoor
end
