/- The law ReadPlace answers true for every argument; a part of its proof. -/
import Derived.Test.YtjaobihcdkjmbaaGreatDoorCa
import Derived.Test.YtjaobihcdkjmbaaGreatDoorCb
import Derived.Test.YtjaobihcdkjmbaaGreatDoorC0
import Derived.Test.YtjaobihcdkjmbaaGreatDoorC7
import Derived.Test.YtjaobihcdkjmbaaGreatDoorC8
import Derived.Test.YtjaobihcdkjmbaaGreatDoorC12
import Derived.Test.YtjaobihcdkjmbaaGreatDoorC16
import Derived.Test.YtjaobihcdkjmbaaGreatDoorC17
set_option linter.unusedVariables false
set_option linter.unusedSimpArgs false
namespace Go.Proofs.YtjaobihcdkjmbaaGreatDoor.PReadTokens
end Go.Proofs.YtjaobihcdkjmbaaGreatDoor.PReadTokens
namespace Go.Proofs.YtjaobihcdkjmbaaGreatDoorW.PrintWords
end Go.Proofs.YtjaobihcdkjmbaaGreatDoorW.PrintWords
set_option maxRecDepth 100000
set_option maxHeartbeats 4000000
section
namespace Go.Proofs.YtjaobihcdkjmbaaGreatDoor
open Go.RowKit Go.Proofs.YtjaobihcdkjmbaaGreatDoorW.PrintWords Go.Proofs.YtjaobihcdkjmbaaGreatDoor.PReadTokens
structure Rod (w:World) (R N:Nat):Prop where
 out:∃A l c at_ st,w.heap[R]?=some (.cells #[.slice A (l:Nat) c,.int .i64 at_,.int .u64 st] 77 (0,0))∧0≤at_∧at_≤N∧l≤9223372036854775807 ∧
  (∀i,i<l→∃ad x,A=some ad∧w.cell? (ad.add i)=some (.int .i64 x)∧ad.block<R)
theorem zCP (a:Addr) (n:Nat):(a.add n).block=a.block:=by unfold Addr.add;split<;>rfl
theorem xor_pos (x y:Int):0≤Go.bits .xor .u64 x y:=wrap_u64_nonneg _
theorem turn_calls (R N:Nat) (w:World) (hR:Rod w R N) (hN:N≤1000000) :
  Calls Tryz.prog 59 #[.pointer (some ⟨R,0,none⟩)] w fun e w'=>(∃x,e=.returned (.int .u64 x)∧0≤x)∧Rod w' R (N+1)∧w.grownBy w' (some R):=by
 obtain⟨A,l,c,at_,st,h0,h1,h2,hl,h3⟩:=hR.out;have a0:=zA1 h0 0;have a1:=zA1 h0 1;have a2:=zA1 h0 2;have f1:=zA2 h0 1;have f2:=zA2 h0 2;have hw1:IntKind.i64.wrap (at_+1)=at_+1:=by simp[IntKind.wrap,IntKind.bits,IntKind.signed];omega
 go_enter Tryz.func59,Tryz.ntmps59;go_wp2_with fail;have K:w.drew.cell? ⟨R,0,none⟩=some (.slice A l c)∧w.drew.cell? ⟨R,1,none⟩=some (.int .i64 at_):=⟨a0,a1⟩
 go_region_held3 (fun w':World=>w'.cell? ⟨R,0,none⟩=some (.slice A l c)∧w'.cell? ⟨R,1,none⟩=some (.int .i64 at_)) (first | with_reducible exact K) (fail)
 by_cases hlt:at_<l
 ·obtain⟨ad,x,hA,hx,_⟩:=h3 at_.toNat kCW;have hx:w.drew.cell? (ad.add at_.toNat)=some (.int .i64 x):=hx;subst hA;have q1:(0≤at_)=True:=kAs h1;have q2:(at_<(l:Int))=True:=kAs hlt;have q3:decide (at_<(l:Int))=true:=kA5 hlt;rw[q3];go_wp2_with fail;have K:w.drew.drew.cell? ⟨R,0,none⟩=some (.slice (some ad) l c)∧w.drew.drew.cell? ⟨R,1,none⟩=some (.int .i64 at_)∧w.drew.drew.cell? (ad.add at_.toNat)=some (.int .i64 x):=⟨a0,a1,hx⟩;clear hx
  go_region_held3 (fun w':World=>w'.cell? ⟨R,0,none⟩=some (.slice (some ad) l c)∧w'.cell? ⟨R,1,none⟩=some (.int .i64 at_)∧w'.cell? (ad.add at_.toNat)=some (.int .i64 x)) (first | with_reducible exact K) (fail)
  generalize IntKind.u64.wrap (IntKind.u64.wrap ((at_+1)*13503953896175478587)+IntKind.u64.wrap (IntKind.u64.wrap x*4354685564936845355))=v3;go_wp2_with fail;generalize IntKind.u64.wrap (bits BinOp.xor IntKind.u64 st v3*11912009170470909681)=st2;have j0:((((w.setCell ⟨R,1,none⟩ (.int .i64 (at_+1))).setCell ⟨R,2,none⟩ (.int .u64 st2)).drew.drew)).heap[R]?=some (.cells #[.slice (some ad) l c,.int .i64 (at_+1),.int .u64 st2] 77 (0,0)):=zAa (zAa h0 1 (.int .i64 (at_+1))) 2 (.int .u64 st2);have g0:w.grownBy ((((w.setCell ⟨R,1,none⟩ (.int .i64 (at_+1))).setCell ⟨R,2,none⟩ (.int .u64 st2)).drew.drew)) (some R):=zBx (n:=1) (zBx (n:=1) (kA9 (kAh _ _ _ _) (kAh _ _ _ _)) );generalize (((w.setCell ⟨R,1,none⟩ (.int .i64 (at_+1))).setCell ⟨R,2,none⟩ (.int .u64 st2)).drew.drew)=W at *;have c2:W.cell? ⟨R,2,none⟩=some (.int .u64 st2):=zA1 j0 2;have e2:W.frozen? ⟨R,2,none⟩=false:=zA2 j0 2;have c2':W.drew.cell? ⟨R,2,none⟩=some (.int .u64 st2):=zA1 j0 2;have e2':W.drew.frozen? ⟨R,2,none⟩=false:=zA2 j0 2;have j0:W.drew.heap[R]?=some (.cells #[.slice (some ad) l c,.int .i64 (at_+1),.int .u64 st2] 77 (0,0)):=j0;clear K;go_still_tail 13,kCX;go_wp2_with fail;go_ret;have g1:w.grownBy ((W.setCell ⟨R,2,none⟩ (.int .u64 (bits BinOp.xor IntKind.u64 st2 (st2 / 2147483648)))).drew) (some R):=zBx (n:=1) (Lib.grownBy_setB g0 2 _);refine⟨⟨_,rfl,kBU (xor_pos _ _) kD0⟩,⟨_,l,c,at_+1,_,zAa j0 2 _,kCW,kCW,hl,?_⟩,g1⟩;intro i hi;obtain⟨ad,x,e1,e2,e3⟩:=h3 i hi;exact⟨ad,x,e1,cell_grown g1 e2 (by rw[zCP];exact kB1 e3),e3⟩
 ·have q3:decide (at_<(l:Int))=false:=kA6 hlt;rw[q3];generalize IntKind.u64.wrap ((at_+1)*13503953896175478587)=v3;go_wp2_with fail;generalize IntKind.u64.wrap (bits BinOp.xor IntKind.u64 st v3*11912009170470909681)=st2;have j0:((((w.setCell ⟨R,1,none⟩ (.int .i64 (at_+1))).setCell ⟨R,2,none⟩ (.int .u64 st2)).drew)).heap[R]?=some (.cells #[.slice A l c,.int .i64 (at_+1),.int .u64 st2] 77 (0,0)):=zAa (zAa h0 1 (.int .i64 (at_+1))) 2 (.int .u64 st2);have g0:w.grownBy ((((w.setCell ⟨R,1,none⟩ (.int .i64 (at_+1))).setCell ⟨R,2,none⟩ (.int .u64 st2)).drew)) (some R):=zBx (n:=1) (kA9 (kAh _ _ _ _) (kAh _ _ _ _));generalize (((w.setCell ⟨R,1,none⟩ (.int .i64 (at_+1))).setCell ⟨R,2,none⟩ (.int .u64 st2)).drew)=W at *;have c2:W.cell? ⟨R,2,none⟩=some (.int .u64 st2):=zA1 j0 2;have e2:W.frozen? ⟨R,2,none⟩=false:=zA2 j0 2;have c2':W.drew.cell? ⟨R,2,none⟩=some (.int .u64 st2):=zA1 j0 2;have e2':W.drew.frozen? ⟨R,2,none⟩=false:=zA2 j0 2;have j0:W.drew.heap[R]?=some (.cells #[.slice A l c,.int .i64 (at_+1),.int .u64 st2] 77 (0,0)):=j0;clear K;go_still_tail 13,kCX;go_wp2_with fail;go_ret;have g1:w.grownBy ((W.setCell ⟨R,2,none⟩ (.int .u64 (bits BinOp.xor IntKind.u64 st2 (st2 / 2147483648)))).drew) (some R):=zBx (n:=1) (Lib.grownBy_setB g0 2 _);refine⟨⟨_,rfl,kBU (xor_pos _ _) kD0⟩,⟨_,l,c,at_+1,_,zAa j0 2 _,kCW,kCW,hl,?_⟩,g1⟩;intro i hi;obtain⟨ad,x,e1,e2,e3⟩:=h3 i hi;exact⟨ad,x,e1,cell_grown g1 e2 (by rw[zCP];exact kB1 e3),e3⟩
theorem zDB (R N:Nat) (n:Int) (w:World) (hR:Rod w R N) (hN:N≤1000000) (hn:n≤1000000) (hn0:0≤n) :
  Calls Tryz.prog 22 #[.pointer (some ⟨R,0,none⟩),.int .i64 n] w fun e w'=>(∃x,e=.returned (.int .i64 x)∧0≤x∧x≤n)∧Rod w' R (N+1)∧w.grownBy w' (some R):=by
 have ht:=turn_calls R N w hR hN;go_enter Tryz.func22,Tryz.ntmps22;go_wp2_with fail;refine ht.mono ?_;rintro e w1 ⟨⟨x,rfl,hx⟩,hr,hg⟩;clear ht;by_cases h1:n<1
 ·have hd:decide (n<1)=true:=kA5 h1;go_wp2;go_ret;exact⟨⟨0,rfl,kCW,kCW⟩,hr,hg⟩
 ·have hd:decide (n<1)=false:=kA6 h1;have hn1:(n=0)=False:=kCZ
  go_wp2_with fail;have h3:0≤x % (n+1):=kBH _ kCW;have h4:x % (n+1)<n+1:=kBq _ kCW;have e:wrap64 (x % (n+1))=x % (n+1):=by generalize x % (n+1)=y at *;unfold wrap64;omega
  rw[e];go_ret;exact⟨⟨_,rfl,h3,kCW⟩,hr,hg⟩
theorem zFg (R N:Nat) (n:Int) (w:World) (hR:Rod w R N) (hN:N≤1000000) (hn:n≤1000000) (hn0:1≤n) :
  Calls Tryz.prog 47 #[.pointer (some ⟨R,0,none⟩),.int .i64 n] w fun e w'=>(∃x,e=.returned (.bool x))∧Rod w' R (N+1)∧w.grownBy w' (some R):=by
 have ht:=zDB R N (n-1) w hR hN kCW kCW;have hw:IntKind.i64.wrap (n-1)=n-1:=by simp[IntKind.wrap,IntKind.bits,IntKind.signed];omega
 go_enter Tryz.func47,Tryz.ntmps47;go_wp2_with fail;refine ht.mono ?_;rintro e w1 ⟨⟨x,rfl,hx⟩,hr,hg⟩;clear ht;go_wp2;go_ret;exact⟨⟨_,rfl⟩,hr,hg⟩
theorem zCQ (R N:Nat) (lo hi:Int) (w:World) (hR:Rod w R N) (hN:N≤1000000) (h1:-1000≤lo) (h2:lo≤hi) (h3:hi≤1000) :
  Calls Tryz.prog 51 #[.pointer (some ⟨R,0,none⟩),.int .i64 lo,.int .i64 hi] w fun e w'=>(∃x,e=.returned (.int .i64 x)∧lo≤x∧x≤hi)∧Rod w' R (N+1)∧w.grownBy w' (some R):=by
 have ht:=zDB R N (hi-lo) w hR hN kCW kCW;have hw:IntKind.i64.wrap (hi-lo)=hi-lo:=by simp[IntKind.wrap,IntKind.bits,IntKind.signed];omega
 go_enter Tryz.func51,Tryz.ntmps51;go_wp2_with fail;refine ht.mono ?_;rintro e w1 ⟨⟨x,rfl,hx⟩,hr,hg⟩;clear ht;have hw2:IntKind.i64.wrap (lo+x)=lo+x:=by simp[IntKind.wrap,IntKind.bits,IntKind.signed];omega
 go_wp2;go_ret;exact⟨⟨_,rfl,kCW,kCW⟩,hr,hg⟩
structure Nums (w:World) (R:Nat) (A:Addr) (l:List Int):Prop where
 cells:∀i (h:i<l.length),w.cell? (A.add i)=some (.int .i64 l[i])
 ne:A.block≠R
theorem zDq (R N:Nat) (A:Addr) (l:List Int) (w:World) (hR:Rod w R N) (hN:N≤1000000) (hA:Nums w R A l) (hl0:0<l.length) (hl1:l.length≤1000) :
  Calls Tryz.prog 52 #[.pointer (some ⟨R,0,none⟩),.slice (some A) l.length l.length] w fun e w'=>(∃x,e=.returned (.int .i64 x)∧x∈l)∧Rod w' R (N+1)∧w.grownBy w' (some R):=by
 have ht:=zDB R N (l.length-1:Nat) w hR hN kCW kCW;have hw:IntKind.i64.wrap ((l.length:Int)-1)=((l.length-1:Nat):Int):=by simp[IntKind.wrap,IntKind.bits,IntKind.signed];omega
 generalize hm:l.length=m at *;go_enter Tryz.func52,Tryz.ntmps52;go_wp2_with fail;refine ht.mono ?_;rintro e w1 ⟨⟨x,rfl,hx0,hx1⟩,hr,hg⟩;clear ht;have hlt:x.toNat<l.length:=kCW
 have hc:=cell_grown hg (hA.cells x.toNat hlt) (by rw[zCP];exact hA.ne);have q1:(0≤x)=True:=kAs hx0;have q2:(x<(m:Int))=True:=kAs kCW;have hmem:l[x.toNat]∈l:=kAR hlt;generalize l[x.toNat]=y at *;go_wp2;go_ret;exact⟨⟨_,rfl,hmem⟩,hr,hg⟩
structure Strs (w:World) (R:Nat) (A:Addr) (l:List ByteArray):Prop where
 cells:∀i (h:i<l.length),w.cell? (A.add i)=some (.string l[i])
 ne:A.block≠R
theorem zCn (R N:Nat) (A:Addr) (l:List ByteArray) (w:World) (hR:Rod w R N) (hN:N≤1000000) (hA:Strs w R A l) (hl0:0<l.length) (hl1:l.length≤1000) :
  Calls Tryz.prog 31 #[.pointer (some ⟨R,0,none⟩),.slice (some A) l.length l.length] w fun e w'=>(∃x,e=.returned (.string x)∧x∈l)∧Rod w' R (N+1)∧w.grownBy w' (some R):=by
 have ht:=zDB R N (l.length-1:Nat) w hR hN kCW kCW;have hw:IntKind.i64.wrap ((l.length:Int)-1)=((l.length-1:Nat):Int):=by simp[IntKind.wrap,IntKind.bits,IntKind.signed];omega
 generalize hm:l.length=m at *;go_enter Tryz.func31,Tryz.ntmps31;go_wp2_with fail;refine ht.mono ?_;rintro e w1 ⟨⟨x,rfl,hx0,hx1⟩,hr,hg⟩;clear ht;have hlt:x.toNat<l.length:=kCW
 have hc:=cell_grown hg (hA.cells x.toNat hlt) (by rw[zCP];exact hA.ne);have q1:(0≤x)=True:=kAs hx0;have q2:(x<(m:Int))=True:=kAs kCW;have hmem:l[x.toNat]∈l:=kAR hlt;generalize l[x.toNat]=y at *;go_wp2;go_ret;exact⟨⟨_,rfl,hmem⟩,hr,hg⟩
theorem Rod.lt {w:World} {R N:Nat} (h:Rod w R N):R<w.heap.size:=by
 obtain⟨A,l,c,at_,st,h0,_⟩:=h.out;exact zA5 h0
theorem Rod.below {w w1:World} {R N:Nat} (h:Rod w R N) (hb:Below w.heap.size w w1):Rod w1 R N:=by
 obtain⟨A,l,c,at_,st,h0,h1,h2,hl,h3⟩:=h.out;refine⟨A,l,c,at_,st,zAb hb h0,h1,h2,hl,fun i hi=>?_⟩;obtain⟨ad,x,e1,e2,e3⟩:=h3 i hi;exact⟨ad,x,e1,zA0 hb e2,e3⟩
theorem Rod.more {w:World} {R N M:Nat} (h:Rod w R N) (hm:N≤M):Rod w R M:=by
 obtain⟨A,l,c,at_,st,h0,h1,h2,hl,h3⟩:=h.out;exact⟨A,l,c,at_,st,h0,h1,kCW,hl,h3⟩
theorem zFA (w:World) (R:Nat) (l:List ByteArray) (hR:R<w.heap.size):Strs (w.alloc (.cells (l.map Value.string).toArray 9)) R ⟨w.heap.size,0,none⟩ l:=by
 refine⟨fun i hi=>?_,by show w.heap.size≠R;omega⟩;have hb:=zA4 w (.cells (l.map Value.string).toArray 9);rw[zCw];have:=zA1 hb i;rw[this];simp[hi]
theorem zEI (w:World) (R:Nat) (l:List Int) (hR:R<w.heap.size):Nums (w.alloc (.cells (l.map (Value.int .i64)).toArray 3)) R ⟨w.heap.size,0,none⟩ l:=by
 refine⟨fun i hi=>?_,by show w.heap.size≠R;omega⟩;have hb:=zA4 w (.cells (l.map (Value.int .i64)).toArray 3);rw[zCw];have:=zA1 hb i;rw[this];simp[hi]
abbrev nameL:List ByteArray:=[⟨#[97]⟩,⟨#[98]⟩,⟨#[120]⟩,⟨#[121,49]⟩,⟨#[105]⟩]
theorem size28':(Tryz.prog.info? 28).map (·.size)=some 2:=kCX
def decS (n:Int):ByteArray:=(metewandkit_Decimal.f 5 n).getD ⟨#[]⟩
def ratS (p q:Int):S28:=⟨decS (p / (Int.gcd p q:Int)),decS (q / (Int.gcd p q:Int))⟩
theorem dec_some:∀n:Int,0≤n→n≤20→(metewandkit_Decimal.f 5 n).isSome=true∧(decS n).size≤2:=by
 intro n h0 h1;have:n=0∨n=1∨n=2∨n=3∨n=4∨n=5∨n=6∨n=7∨n=8∨n=9∨n=10∨n=11∨n=12∨n=13∨n=14∨n=15∨n=16∨n=17∨n=18∨n=19∨n=20:=kCW
 rcases this with rfl | rfl | rfl | rfl | rfl | rfl | rfl | rfl | rfl | rfl | rfl | rfl | rfl | rfl | rfl | rfl | rfl | rfl | rfl | rfl | rfl
 all_goals exact⟨kCX,kA8 kCX⟩
theorem dec_f (n:Int) (h0:0≤n) (h1:n≤20):metewandkit_Decimal.f 5 n=some (decS n):=by
 obtain⟨r,h⟩:=kC5.1 (dec_some n h0 h1).1;rw[h];unfold decS;rw[h];rfl
theorem dec_calls (n:Int) (h0:0≤n) (h1:n≤20) (w:World):Calls Tryz.prog 86 #[.int .i64 n] w fun e w'=>e=.returned (.string (decS n))∧Below w.heap.size w w' :=
 metewandkit_Decimal.calls 5 n _ w (dec_f n h0 h1)
theorem gcdU_step (a b:Int) (ha:0≤a) (hb:0≤b):Int.gcd b (a.tmod b)=Int.gcd a b:=by
 obtain⟨m,rfl⟩:=kBR ha;obtain⟨n,rfl⟩:=kBR hb;rw[← Int.ofNat_tmod,Int.gcd_natCast_natCast,Int.gcd_natCast_natCast,Nat.gcd_comm n,← Nat.gcd_rec,Nat.gcd_comm]
theorem zGn (p q:Int) (hp0:0≤p) (hp1:p≤20) (hq0:1≤q) (hq1:q≤6) (w:World) :
  Calls Tryz.prog 50 #[.int .i64 p,.int .i64 q] w fun e w'=>e=.returned (.agg #[.string (ratS p q).f0,.string (ratS p q).f1])∧Below w.heap.size w w':=by
 have hneg:decide (p<0)=false:=kA6 kCW;have h0:=zA4 w (.cells #[.string ⟨#[]⟩,.string ⟨#[]⟩] 28);have hb0:=(kA3 w.heap.size w).alloc (kA2 _) (.cells #[.string ⟨#[]⟩,.string ⟨#[]⟩] 28);go_enter Tryz.func50,Tryz.ntmps50;go_wp2_with fail;generalize w.alloc (.cells #[.string ⟨#[]⟩,.string ⟨#[]⟩] 28)=X at *;go_loopg [5,6] 7 (fun k v5 v6 wr=>∃a b:Int,v5=.int .i64 a∧v6=.int .i64 b∧0≤a∧a≤20∧0≤b∧b<k∧b≤20∧Hid (Int.gcd a b=Int.gcd p q)∧∃n,wr=X.drewN n)
 case atStart=>exact⟨p,q,rfl,rfl,hp0,hp1,kCW,kCW,kCW,kA1 rfl,0,rfl⟩
 case round =>
  obtain⟨a,b,rfl,rfl,ha0,ha1,hb0',hb1,hb2,HG,n,rfl⟩:=hrel;by_cases hz:b=0
  ·have hzb:(b != 0)=false:=by rw[hz];rfl
   have BX:Below w.heap.size w (X.drewN n):=zA3 hb0 n;have hX:(X.drewN n).heap[w.heap.size]?=some (.cells #[.string ⟨#[]⟩,.string ⟨#[]⟩] 28 (0,0)):=zAp h0 n;generalize X.drewN n=Y at *;have hX:Y.drew.heap[w.heap.size]?=some (.cells #[.string ⟨#[]⟩,.string ⟨#[]⟩] 28 (0,0)):=hX;have BX:=BX.drew;have tr:True:=trivial;have HP:=kA1 (fun (c:Int) (hc:1≤c) w=>(by
    have e1:=kBx (b:=c) hp0;have e2:=kBU hp0 (show 0≤c by omega);have e3:=Int.le_trans (kCN c hp0) hp1;have e4:IntKind.i64.wrap (p.tdiv c)=p / c:=by rw[e1];generalize p / c=z at *;simp[IntKind.wrap,IntKind.bits,IntKind.signed];omega
    rw[e4];exact dec_calls (p / c) e2 e3 w:Calls Tryz.prog 86 #[.int .i64 (IntKind.i64.wrap (p.tdiv c))] w fun e w'=>e=.returned (.string (decS (p / c)))∧Below w.heap.size w w'))
   have HQ:=kA1 (fun (c:Int) (hc:1≤c) w=>(by
    have hq0':0≤q:=kCW
    have e1:=kBx (b:=c) hq0';have e2:=kBU hq0' (show 0≤c by omega);have e3:=Int.le_trans (kCN c hq0') (show q≤20 by omega);have e4:IntKind.i64.wrap (q.tdiv c)=q / c:=by rw[e1];generalize q / c=z at *;simp[IntKind.wrap,IntKind.bits,IntKind.signed];omega
    rw[e4];exact dec_calls (q / c) e2 e3 w:Calls Tryz.prog 86 #[.int .i64 (IntKind.i64.wrap (q.tdiv c))] w fun e w'=>e=.returned (.string (decS (q / c)))∧Below w.heap.size w w'))
   have hga:(Int.gcd p q:Int)=a:=by
    have:=HG.out;rw[hz,Int.gcd_zero_right] at this;omega
   have hg1:1≤a:=by
    have:0<Int.gcd p q:=Int.gcd_pos_of_ne_zero_right _ kCW;omega
   have HGA:=kA1 hga;clear hga;have ha:¬a<1:=kCW
   have hab:decide (a<1)=false:=kA6 ha;have HP:=HP.out a kCW;have HQ:=HQ.out a kCW;have hz1:(a=0)=False:=kCZ
   have hz2:(a==0)=false:=zAA kCW;have HP:=kA1 HP;have HQ:=kA1 HQ;go_wp2_with fail
   go_region_held3 (fun _:World=>True) (first | exact tr) (first
    | (go_at_call 86;refine (HP.out _).mono ?_;rintro e wq ⟨rfl,hq⟩;clear HP;have hX:=zAb hq hX;have BX:=BX.trans (hq.mono BX.size))
    | (go_at_call 86;refine (HQ.out _).mono ?_;rintro e wr ⟨rfl,hq⟩;clear HQ;have hX:=zAb hq hX;have BX:=BX.trans (hq.mono BX.size);have c0:=zA1 hX 0;have c1:=zA1 hX 1;have e0:=zA2 hX 0;have e1:=zA2 hX 1))
   go_wp2;exact kAg (zAe Tryz.results50 _ _ w.heap.size 28 _ (0,0) _ rfl (zAa (zAa hX 0 _) 1 _) Tryz.underlying28 rfl size28') rfl ⟨by unfold ratS;rw[HGA.out];rfl,(BX.setCell (p:=⟨w.heap.size,0,none⟩) (kA2 _) _).setCell (p:=⟨w.heap.size,1,none⟩) (kA2 _) _⟩
  ·have hzb:(b != 0)=true:=kCw.2 hz;have hz1:(b=0)=False:=kCZ
   have hz2:(b==0)=false:=zAA kCW;have tr:True:=trivial;go_wp2_with fail
   go_region_held3 (fun _:World=>True) (first | exact tr) (fail)
   go_wp2_with fail;have m0:0≤a.tmod b:=Int.tmod_nonneg b ha0;have m1:a.tmod b<b:=Int.tmod_lt_of_pos a kCW;go_roundg (gk-1)
   case measure=>omega
   case rel=>exact⟨b,a.tmod b,rfl,rfl,kCW,kCW,m0,kCW,kCW,kA1 ((gcdU_step a b ha0 hb0').trans HG.out),n+1,rfl⟩
abbrev eB:ByteArray:=⟨#[]⟩
abbrev callL:List ByteArray:=[⟨#[102]⟩,⟨#[103]⟩,⟨#[104,50]⟩]
abbrev unitL:List ByteArray:=[⟨#[]⟩,⟨#[]⟩,⟨#[109]⟩,⟨#[107,109,47,104]⟩,⟨#[109,32,115,94,45,50]⟩]
abbrev opL:List Int:=[2,3,4,5,6,3,5,7,8,9,10,11,12,13,14]
def nodeOk (op:Int) (name:ByteArray) (size:Int) (k:Nat):Prop :=
 (op=2∧name=eB∧size=0∧k=1)∨((op=3∨op=4∨op=5∨op=6∨op=9)∧name=eB∧size=0∧k=2)∨(op=7∧name=eB∧(-9≤size∧size≤9)∧k=1) ∨
 (op=8∧name=eB∧size=0∧(1≤k∧k≤3))∨((op=10∨op=11)∧name∈nameL∧(1≤size∧size≤99)∧k=1)∨(op=12∧name=eB∧size=0∧k=4) ∨
 (op=13∧name∈nameL∧size=0∧k=2)∨(op=14∧name∈callL∧size=0∧k≤3)
inductive Made:Nat→S31→Prop
 | ref (n:Nat) (s:ByteArray) (h:s∈nameL):Made n ⟨1,z28,s,0,[]⟩
 | lit (n:Nat) (p q:Int) (u:ByteArray) (h0:0≤p) (h1:p≤20) (h2:1≤q) (h3:q≤6) (hu:u∈unitL):Made n ⟨0,ratS p q,u,0,[]⟩
 | node (n:Nat) (op:Int) (name:ByteArray) (size:Int) (l:List S31) (h:nodeOk op name size l.length) (hl:∀y∈l,Made n y):Made (n+1) ⟨op,z28,name,size,l⟩
def cost:Nat→Nat
 | 0=>6
 | n+1=>6+4*cost n
theorem cost_pos (n:Nat):6≤cost n:=by cases n<;>simp[cost]
def zFC (R N n:Nat) (w:World) (e:Ending) (w':World):Prop :=
 ∃x v,e=.returned v∧Made n x∧Ex w' (From w.heap.size) x v∧Rod w' R (N+cost n)∧w.grownBy w' (some R)
theorem Rod.far {w w1:World} {R N:Nat} {row:Option Nat} (h:Rod w R N) (hg:w.grownBy w1 row) (hr:∀b,row=some b→R<b):Rod w1 R N:=by
 obtain⟨A,l,c,at_,st,h0,h1,h2,hl,h3⟩:=h.out;have hlt:=zA5 h0;refine⟨A,l,c,at_,st,(hg.block R hlt (fun e=>by have:=hr R e.symm;omega)).trans h0,h1,h2,hl,fun i hi=>?_⟩;obtain⟨ad,x,e1,e2,e3⟩:=h3 i hi;refine⟨ad,x,e1,?_,e3⟩;have hb:=hg.block (ad.add i).block (kAG w _ e2) (fun e=>by rw[zCP] at e;have:=hr _ e.symm;omega);simpa[World.cell?,hb] using e2
theorem zCq {w w1 w2:World} {k row:Option Nat} (h:w.grownBy w1 k) (g:w1.grownBy w2 row) (hr:∀b,row=some b→w.heap.size≤b):w.grownBy w2 k :=
 ⟨g.os.trans h.os,g.tape.trans h.tape,g.output.trans h.output,kAz h.size g.size,fun j hj hn=>(g.block j (kBi hj h.size) (fun e=>by have:=hr j e.symm;omega)).trans (h.block j hj hn)⟩
theorem zEx (R N:Nat) (w:World) (hR:Rod w R N) (hN:N≤1000000) :
  Calls Tryz.prog 49 #[.pointer (some ⟨R,0,none⟩)] w fun e w'=>(∃x,e=.returned (.string x)∧x∈nameL)∧Rod w' R (N+1)∧w.grownBy w' (some R):=by
 have hb:=(kA3 w.heap.size w).alloc (kA2 _) (.cells (nameL.map Value.string).toArray 9);have hp:=zCn R N ⟨w.heap.size,0,none⟩ nameL _ (hR.below hb) hN (zFA w R nameL hR.lt) kD0 kD0;go_enter Tryz.func49,Tryz.ntmps49;go_wp2_with fail;refine hp.mono ?_;rintro e w1 ⟨⟨x,rfl,hx⟩,hr,hg⟩;have hx:=kA1 hx;clear hp;go_wp2;go_ret;exact⟨⟨_,rfl,hx.out⟩,hr,kA9 (kAE w _ (some R)) hg⟩
theorem zGk (s:ByteArray) (w:World) :
  Calls Tryz.prog 48 #[.string s] w fun e w'=>e=.returned (exV ⟨1,z28,s,0,[]⟩ (.slice none 0 0))∧Below w.heap.size w w':=by
 go_enter Tryz.func48,Tryz.ntmps48;go_wp2;exact kAg (zAe Tryz.results48 _ _ w.heap.size 31 _ (0,0) _ rfl (zA4 w _) Tryz.underlying31 rfl zB6) rfl ⟨rfl,(kA3 _ w).alloc (kA2 _) _⟩
structure Grow (w:World) (R X M n:Nat) (op:Int) (name:ByteArray) (size:Int) (xs:List S31) (wr:World) (v5:Value):Prop where
 res:wr.heap[w.heap.size]?=some zO
 blk:wr.heap[X]?=some (.cells #[.int .i64 op,.string ⟨#[]⟩,.string ⟨#[]⟩,.string name,.int .i64 size,v5] 31 (0,0))
 row:k31.R 31 wr 0 (Sx w X) v5 xs
 rod:Rod wr R M
 low:w.grownBy wr (some R)
 far:w.heap.size<X
 own:R<w.heap.size
 all:∀y∈xs,Made n y
theorem Grow.below {w:World} {R X M n:Nat} {op:Int} {name:ByteArray} {size:Int} {xs:List S31} {wr w1:World} {v5:Value} (G:Grow w R X M n op name size xs wr v5) (hb:Below wr.heap.size wr w1):Grow w R X M n op name size xs w1 v5 :=
 ⟨zAb hb G.res,zAb hb G.blk,Kd.R_below G.row hb,G.rod.below hb,kAi G.low hb,G.far,G.own,G.all⟩
theorem Grow.next {w:World} {R X M n:Nat} {op:Int} {name:ByteArray} {size:Int} {xs:List S31} {wr w2 w4:World} {v5 v1:Value} {y:S31} (G:Grow w R X M n op name size xs wr v5) (hy:Made n y) (r2:Rod w2 R (M+cost n)) (g2:wr.grownBy w2 (some R))
  (hrow:k31.R 31 w4 0 (Sx w X) v1 (xs++[y])) (hg4:w2.grownBy w4 v5.ownBlock) :
  w4.heap[X]?=some (.cells #[.int .i64 op,.string ⟨#[]⟩,.string ⟨#[]⟩,.string name,.int .i64 size,v5] 31 (0,0))∧Grow w R X (M+cost n) n op name size (xs++[y]) (w4.setCell ⟨X,5,none⟩ v1) v1:=by
 have own:=G.own;have far:=G.far;have hb5:∀b,v5.ownBlock=some b→w.heap.size<b∧b≠X:=fun b hb=>G.row.1 b hb
 have x2:=zAf g2 G.blk (show X≠R by omega);have z2:=zAf g2 G.res (show w.heap.size≠R by omega);have x4:=(hg4.block X (zA5 x2) (fun e=>(hb5 X e.symm).2 rfl)).trans x2;have z4:=(hg4.block w.heap.size (zA5 z2) (fun e=>by have:=(hb5 _ e.symm).1;omega)).trans z2;refine⟨x4,(kA7 _ _ _ _ kDe).trans z4,zAa x4 5 v1,Kd.R_far hrow (p:=⟨X,5,none⟩) (fun k hk=>hk.2) v1,
  (r2.far hg4 (fun b e=>by have:=(hb5 b e).1;omega)).far (kAh _ _ _ _) (fun b e=>by injection e with e;omega),
  zCq (zCq (kA9 G.low g2) hg4 (fun b e=>by have:=(hb5 b e).1;omega)) (kAh _ _ _ _) (fun b e=>by injection e with e;omega),far,own,fun z hz=>?_⟩
 rcases kC4.1 hz with hz | hz
 ·exact G.all z hz
 ·rw[kBA.1 hz];exact hy
theorem Rod.put {w:World} {R N X:Nat} (h:Rod w R N) (hX:R<X) (i:Nat) (v:Value):Rod (w.setCell ⟨X,i,none⟩ v) R N:=h.far (kAh _ _ _ _) (fun b e=>by injection e with e;omega)
theorem zCV {w w1:World} {R X:Nat} (h:w.grownBy w1 (some R)) (hX:w.heap.size≤X) (i:Nat) (v:Value):w.grownBy (w1.setCell ⟨X,i,none⟩ v) (some R):=zG2 h ⟨X,i,none⟩ hX v
theorem toNat_val {x:Int} (h:0≤x):Value.int .i64 x=.int .i64 (x.toNat:Nat):=by rw[kBt h]
theorem nodeOk_le {op:Int} {name:ByteArray} {size:Int} {k:Nat} (h:nodeOk op name size k):k≤4:=by
 rcases h with h | h | h | h | h | h | h | h<;>omega
theorem ExprOf_leaf (R N:Nat) (w:World) (hR:Rod w R N) (hN:N≤900000) (n:Int) (hn:n<2) :
  Calls Tryz.prog 13 #[.pointer (some ⟨R,0,none⟩),.int .i64 n] w (zFC R N 0 w):=by
 have hRl:=hR.lt;have b0:=(kA3 w.heap.size w).alloc (kA2 _) zO;have rq:=hR.below b0;have zq:(w.alloc zO).heap[w.heap.size]?=some zO:=zA4 w zO;have gq:w.grownBy (w.alloc zO) (some R):=kAE w _ _;have hd:decide (n<2)=true:=kA5 hn;have hc0:cost 0=6:=rfl;clear hR;go_enter Tryz.func13,Tryz.ntmps13;go_wp2_with fail;have HO:=zFg R (N) 2 _ rq kCW kCW kCW;refine HO.mono ?_;rintro e w1 ⟨⟨y,rfl⟩,r1,g1⟩;have z1:=zAf g1 zq kCW;have g1:=kA9 gq g1;clear HO rq zq gq
 cases y with
 | true =>
  have HN:=zEx R (N+1) _ r1 kCW;go_wp2_with fail;refine HN.mono ?_;rintro e w2 ⟨⟨s,rfl,hs⟩,r2,g2⟩;have hs:=kA1 hs;have z2:=zAf g2 z1 kCW;have g2:=kA9 g1 g2;clear HN;go_wp2_with fail;refine (zGk s _).mono ?_;rintro e w3 ⟨rfl,hb3⟩;have z3:=zAb hb3 z2;have r3:=r2.below hb3;have g3:=kAi g2 hb3;obtain⟨⟨q0,q1,q2,q3,q4,q5⟩,⟨f0,f1,f2,f3,f4,f5⟩,xl2⟩:=zA9 z3;unfold exV;go_wp2;exact kAg (zAe Tryz.results13 _ _ w.heap.size 31 _ (0,0) _ rfl (fin6 _ _ _ _ _ _ z3) Tryz.underlying31 rfl zB6) rfl
   ⟨⟨1,z28,s,0,[]⟩,_,rfl,.ref _ s hs.out,Ex.leaf (w:=set6 w3 w.heap.size _ _ _ _ _ _) _ rfl,((r3.more kCW).far (zCs _ _ _ _ _ _ _) (fun b e=>by injection e with e;omega)),zCq g3 (zCs _ _ _ _ _ _ _) (fun b e=>by injection e with e;omega)⟩
 | false =>
  have HU:=zDB R (N+1) 20 _ r1 kCW kCW kCW;go_wp2_with fail;refine HU.mono ?_;rintro e w2 ⟨⟨p,rfl,hp0,hp1⟩,r2,g2⟩;have z2:=zAf g2 z1 kCW;have g2:=kA9 g1 g2;clear HU r1 z1 g1;go_wp2_with fail;have hbA:=(kA3 w2.heap.size w2).alloc (kA2 _) (.cells (([1,1,6]:List Int).map (Value.int .i64)).toArray 3);refine (zDq R (N+2) ⟨w2.heap.size,0,none⟩ [1,1,6] _ (r2.below hbA) kCW (zEI w2 R [1,1,6] r2.lt) kD0 kD0).mono ?_;rintro e w3 ⟨⟨q0,rfl,hq⟩,r3,g3⟩;have hq:1≤q0∧q0≤6:=by simp at hq;omega
  have z3:=zAf g3 (zAb hbA z2) kCW;have g3:=kA9 (kAi g2 hbA) g3;obtain⟨hq1,hq2⟩:=hq;clear hbA r2 z2 g2;go_wp2_with fail;refine (zCQ R (N+3) 1 q0 _ r3 kCW kCW kCW kCW).mono ?_;rintro e w4 ⟨⟨q,rfl,hq3,hq4⟩,r4,g4⟩;have z4:=zAf g4 z3 kCW;have g4:=kA9 g3 g4;clear r3 z3 g3;go_wp2_with fail;refine (zGn p q hp0 hp1 hq3 kCW _).mono ?_;rintro e w5 ⟨rfl,hb5⟩;have z5:=zAb hb5 z4;have r5:=r4.below hb5;have g5:=kAi g4 hb5;clear r4 z4 g4;go_wp2_with fail;have hbB:=(kA3 w5.heap.size w5).alloc (kA2 _) (.cells (unitL.map Value.string).toArray 9);refine (zCn R (N+4) ⟨w5.heap.size,0,none⟩ unitL _ (r5.below hbB) kCW (zFA w5 R unitL r5.lt) kD0 kD0).mono ?_;rintro e w6 ⟨⟨u,rfl,hu⟩,r6,g6⟩;have hu:=kA1 hu;have z6:=zAf g6 (zAb hbB z5) kCW;have g6:=kA9 (kAi g5 hbB) g6;clear hbB r5 z5 g5;obtain⟨⟨q0',q1',q2',q3',q4',q5'⟩,⟨f0,f1,f2,f3,f4,f5⟩,xl2⟩:=zA9 z6;go_wp2;exact kAg (zAe Tryz.results13 _ _ w.heap.size 31 _ (0,0) _ rfl (fin6 _ _ _ _ _ _ z6) Tryz.underlying31 rfl zB6) rfl
   ⟨⟨0,ratS p q,u,0,[]⟩,_,rfl,.lit _ p q u hp0 hp1 hq3 kCW hu.out,Ex.leaf (w:=set6 w6 w.heap.size _ _ _ _ _ _) _ rfl,((r6.more kCW).far (zCs _ _ _ _ _ _ _) (fun b e=>by injection e with e;omega)),zCq g6 (zCs _ _ _ _ _ _ _) (fun b e=>by injection e with e;omega)⟩
end Go.Proofs.YtjaobihcdkjmbaaGreatDoor
end
