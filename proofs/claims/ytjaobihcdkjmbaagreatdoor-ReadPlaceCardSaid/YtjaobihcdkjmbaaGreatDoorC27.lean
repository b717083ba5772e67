/- The law ReadPlace answers true for every argument; a part of its proof. -/
import Derived.Test.YtjaobihcdkjmbaaGreatDoorCa
import Derived.Test.YtjaobihcdkjmbaaGreatDoorCb
import Derived.Test.YtjaobihcdkjmbaaGreatDoorC0
import Derived.Test.YtjaobihcdkjmbaaGreatDoorC1
import Derived.Test.YtjaobihcdkjmbaaGreatDoorC7
import Derived.Test.YtjaobihcdkjmbaaGreatDoorC9
import Derived.Test.YtjaobihcdkjmbaaGreatDoorC12
import Derived.Test.YtjaobihcdkjmbaaGreatDoorC15
import Derived.Test.YtjaobihcdkjmbaaGreatDoorC17
import Derived.Test.YtjaobihcdkjmbaaGreatDoorC22
set_option linter.unusedVariables false
set_option linter.unusedSimpArgs false
namespace Go.Proofs.YtjaobihcdkjmbaaGreatDoor.PReadTokens
end Go.Proofs.YtjaobihcdkjmbaaGreatDoor.PReadTokens
namespace Go.Proofs.YtjaobihcdkjmbaaGreatDoorW.PrintLast
end Go.Proofs.YtjaobihcdkjmbaaGreatDoorW.PrintLast
namespace Go.Proofs.YtjaobihcdkjmbaaGreatDoorW.PrintWords
end Go.Proofs.YtjaobihcdkjmbaaGreatDoorW.PrintWords
set_option maxRecDepth 100000
set_option maxHeartbeats 8000000
section
namespace Go.Proofs.YtjaobihcdkjmbaaGreatDoor
open Go.RowKit Go.Proofs.YtjaobihcdkjmbaaGreatDoorW.PrintWords Go.Proofs.YtjaobihcdkjmbaaGreatDoor.PReadTokens
theorem field100_1 (a b:Int) (w:World):(Instr.field 100 (.agg #[.int .i64 a,.int .i64 b]) 1).run Tryz.prog w=.ok (.int .i64 b) w:=kCX
def zBN (chk:S28→Int) (s:ByteArray):S31×Int×Int :=
 if 0≤zBk chk s then (z31,zBk chk s,1)
 else match zBK chk s with
  | .ok (x,_)=>if 30<zAI x then (z31,0,7) else (x,0,0)
  | .error _=>(z31,0,0)
def zBz (chk:S28→Int) (s:ByteArray) (w:World) (e:Ending) (w':World):Prop :=
 ∃v5,e=.returned (.tuple #[exV (zBN chk s).1 v5,.int .i64 (zBN chk s).2.1,.int .i64 (zBN chk s).2.2])∧Ex w' (From w.heap.size) (zBN chk s).1 (exV (zBN chk s).1 v5)∧Below w.heap.size w w'
theorem zDc (chk:S28→Int) (s:ByteArray) (h:Readable chk s) (w:World) (hS:Start w) (hpl:zBk chk s<0→∃x,zBK chk s=.ok (x,(zA6 s).length)∧zAm x≤4611686018427387904) :
  Calls Tryz.prog 18 #[.string s] w (zBz chk s w):=by
 have hbig:decide (2000<(s.size:Int))=false:=by rw[kBw];have:=h.size;omega
 have hw:=fun X w hS hX0 x0 x1 x2 x3 x4 x5 hX=>whole_calls chk s h X w hS hX0 (x0:=x0) (x1:=x1) (x2:=x2) (x3:=x3) (x4:=x4) (x5:=x5) hX
 have hb0:Below w.heap.size w ((w.alloc zO).alloc zO):=((kA3 _ w).alloc (kA2 _) _).alloc kCY _;have h0:((w.alloc zO).alloc zO).heap[w.heap.size]?=some zO:=(kA4 _ _ _ kCY).trans (zA4 w _);have h1:((w.alloc zO).alloc zO).heap[w.heap.size+1]?=some zO:=by have:=zA4 (w.alloc zO) zO;rwa [kAC] at this
 have hpos:0<w.heap.size:=by have:=kAG w _ hS.err;simpa using this
 have hmf:∀(fn:Fn) (first cap:Array Value) (w:World),(Instr.makeFunc fn first cap).run Tryz.prog w=.ok (.func fn first cap) w:=fun _ _ _ _=>rfl
 have hw1:=hw (w.heap.size+1) _ (hS.below hb0) kCW _ _ _ _ _ _ h1;unfold zBQ at hw1;unfold zO at hw1 h0 h1 hb0;obtain⟨q,hq⟩:∃q,q=zBk chk s:=⟨_,rfl⟩;rw[← hq] at hw1 hpl;have HQ:=kA1 hq;have HS:=kA1 hS;clear hq hw h hS;by_cases hp:0≤q
 ·have hp':decide (0≤q)=true:=kA5 hp;go_enter Tryz.func18,Tryz.ntmps18;go_wp2_with fail;refine hw1.mono ?_;rintro e w2 ⟨rfl,hg2,_⟩;have hb2:=hb0.grown hg2 hb0.size (fun j e=>by injection e with e;omega);have r2:=zAf hg2 h0 kCW;obtain⟨⟨c0,c1,c2,c3,c4,c5⟩,⟨f0,f1,f2,f3,f4,f5⟩,rl⟩:=zA9 r2;go_wp2;have hr:zBN chk s=(z31,q,1):=by unfold zBN;rw[← HQ.out,kAb hp]
  refine kAg (zAR rfl _ _ w.heap.size 31 _ (0,0) _ rfl (fin6 _ _ _ _ _ _ r2) Tryz.underlying31 rfl zB6) rfl ?_;unfold zBz;rw[hr];exact⟨_,rfl,Ex.leaf _ rfl,below6 hb2 (kA2 _) _ _ _ _ _ _⟩
 ·have hp':decide (0≤q)=false:=kA6 hp;obtain⟨x,hx,hnx⟩:=hpl kCW;go_enter Tryz.func18,Tryz.ntmps18;go_wp2_with fail;refine hw1.mono ?_;rintro e w2 ⟨rfl,hg2,hx2⟩;obtain⟨v5,hX2,hE⟩:=hx2 x hx;have hb2:=hb0.grown hg2 hb0.size (fun j e=>by injection e with e;omega);have r2:=zAf hg2 h0 kCW;unfold exC at hX2;obtain⟨⟨q0,q1,q2,q3,q4,q5⟩,_,xl⟩:=zA9 hX2;have hdp:=zFb (zAI x) x (kA2 _) hnx (exV x v5) w2 hE.vw;unfold exV at hdp;obtain⟨A5,n5,c5,rfl⟩:∃A n c,v5=.slice A n c:=by
   obtain⟨v,A,n,c,h1,rfl,_⟩:=hE.cells;unfold exV at h1;injection h1 with h1;simp at h1;exact⟨A,n,c,h1⟩
  have HE:=kA1 hE;have hpR:zBK chk s=.ok (x,(zA6 s).length):=hx;have HX:=kA1 hX2;clear hE hx2 hX2;go_wp2_with fail;refine hdp.mono ?_;rintro e w3 ⟨rfl,hb3⟩;have hf:=field100_1 (zAm x) (zAI x);have r3:=zAb hb3 r2;have x3:=zAb hb3 HX.out;have hE3:=HE.out.below hb3;have hb4:=hb2.trans (hb3.mono hb2.size);obtain⟨⟨c0,c1,c2,c3,c4,c5⟩,⟨f0,f1,f2,f3,f4,f5⟩,rl⟩:=zA9 r3;by_cases hd:30<zAI x
  ·have hd':decide (30<(zAI x:Int))=true:=kA5 kCW;go_wp2;have hr:zBN chk s=(z31,0,7):=by unfold zBN;rw[← HQ.out,kAa (show ¬0≤q by omega),hpR];simp only[kAb hd]
   refine kAg (zAR rfl _ _ w.heap.size 31 _ (0,0) _ rfl (fin6 _ _ _ _ _ _ r3) Tryz.underlying31 rfl zB6) rfl ?_;unfold zBz;rw[hr];exact⟨_,rfl,Ex.leaf _ rfl,below6 hb4 (kA2 _) _ _ _ _ _ _⟩
  ·have hd':decide (30<(zAI x:Int))=false:=kA6 kCW;obtain⟨⟨y0,y1,y2,y3,y4,y5⟩,_,xl3⟩:=zA9 x3;go_wp2;have hr:zBN chk s=(x,0,0):=by unfold zBN;rw[← HQ.out,kAa (show ¬0≤q by omega),hpR];simp only[kAa hd]
   refine kAg (zAR rfl _ _ w.heap.size 31 _ (0,0) _ rfl (fin6 _ _ _ _ _ _ r3) Tryz.underlying31 rfl zB6) rfl ?_;unfold zBz;rw[hr];refine⟨_,rfl,(hE3.set6 (R:=w.heap.size) (fun k hk e=>by have:((w.alloc _).alloc _).heap.size≤k:=hk;simp at this;omega) _ _ _ _ _ _).mono (fun k hk=>?_),below6 hb4 (kA2 _) _ _ _ _ _ _⟩;have:((w.alloc _).alloc _).heap.size≤k:=hk;simp at this;show w.heap.size≤k;omega
end Go.Proofs.YtjaobihcdkjmbaaGreatDoor
end
section
namespace Go.Proofs.YtjaobihcdkjmbaaGreatDoor
open Go.RowKit Go.Proofs.YtjaobihcdkjmbaaGreatDoorW.PrintWords Go.Proofs.YtjaobihcdkjmbaaGreatDoorW.PrintLast Go.Proofs.YtjaobihcdkjmbaaGreatDoor.PReadTokens
theorem ExprOf_step (R N n:Nat) (m:Int) (w:World) (hR:Rod w R N) (hN:N+cost (n+1)≤900000) (hm:2≤m) (hm1:m≤1000)
  (ih:∀M w,Rod w R M→M+cost n≤900000→Calls Tryz.prog 13 #[.pointer (some ⟨R,0,none⟩),.int .i64 (m-1)] w (zFC R M n w)) :
  Calls Tryz.prog 13 #[.pointer (some ⟨R,0,none⟩),.int .i64 m] w (zFC R N (n+1) w):=by
 have hRl:=hR.lt;have b0:=(kA3 w.heap.size w).alloc (kA2 _) zO;have rp:=hR.below b0;have zp:(w.alloc zO).heap[w.heap.size]?=some zO:=zA4 w zO;have gp:w.grownBy (w.alloc zO) (some R):=kAE w _ _;have hd:decide (m<2)=false:=kA6 kCW;have hc0:6+4*cost n≤cost (n+1):=kA2 _;have hc1:=cost_pos n;have HI:=kA1 ih;clear hR ih;go_enter Tryz.func13,Tryz.ntmps13;go_wp2_with fail;have HO0:=zFg R N 5 _ rp kCW kCW kCW;refine HO0.mono ?_;rintro e w0 ⟨⟨y0,rfl⟩,rq,g0⟩;have zq:=zAf g0 zp kCW;have gq:=kA9 gp g0;clear HO0 rp zp gp g0
 cases y0 with
 | true =>
  go_wp2_with fail;have HO:=zFg R (N+1) 2 _ rq kCW kCW kCW;refine HO.mono ?_;rintro e w1 ⟨⟨y,rfl⟩,r1,g1⟩;have z1:=zAf g1 zq kCW;have g1:=kA9 gq g1;clear HO rq zq gq
  cases y with
  | true =>
   have HN:=zEx R (N+1+1) _ r1 kCW;go_wp2_with fail;refine HN.mono ?_;rintro e w2 ⟨⟨s,rfl,hs⟩,r2,g2⟩;have hs:=kA1 hs;have z2:=zAf g2 z1 kCW;have g2:=kA9 g1 g2;clear HN;go_wp2_with fail;refine (zGk s _).mono ?_;rintro e w3 ⟨rfl,hb3⟩;have z3:=zAb hb3 z2;have r3:=r2.below hb3;have g3:=kAi g2 hb3;obtain⟨⟨q0,q1,q2,q3,q4,q5⟩,⟨f0,f1,f2,f3,f4,f5⟩,xl2⟩:=zA9 z3;unfold exV;go_wp2;exact kAg (zAe Tryz.results13 _ _ w.heap.size 31 _ (0,0) _ rfl (fin6 _ _ _ _ _ _ z3) Tryz.underlying31 rfl zB6) rfl
    ⟨⟨1,z28,s,0,[]⟩,_,rfl,.ref _ s hs.out,Ex.leaf (w:=set6 w3 w.heap.size _ _ _ _ _ _) _ rfl,((r3.more kCW).far (zCs _ _ _ _ _ _ _) (fun b e=>by injection e with e;omega)),zCq g3 (zCs _ _ _ _ _ _ _) (fun b e=>by injection e with e;omega)⟩
  | false =>
   have HU:=zDB R (N+1+1) 20 _ r1 kCW kCW kCW;go_wp2_with fail;refine HU.mono ?_;rintro e w2 ⟨⟨p,rfl,hp0,hp1⟩,r2,g2⟩;have z2:=zAf g2 z1 kCW;have g2:=kA9 g1 g2;clear HU r1 z1 g1;go_wp2_with fail;have hbA:=(kA3 w2.heap.size w2).alloc (kA2 _) (.cells (([1,1,6]:List Int).map (Value.int .i64)).toArray 3);refine (zDq R (N+1+2) ⟨w2.heap.size,0,none⟩ [1,1,6] _ (r2.below hbA) kCW (zEI w2 R [1,1,6] r2.lt) kD0 kD0).mono ?_;rintro e w3 ⟨⟨q0,rfl,hq⟩,r3,g3⟩;have hq:1≤q0∧q0≤6:=by simp at hq;omega
   have z3:=zAf g3 (zAb hbA z2) kCW;have g3:=kA9 (kAi g2 hbA) g3;obtain⟨hq1,hq2⟩:=hq;clear hbA r2 z2 g2;go_wp2_with fail;refine (zCQ R (N+1+3) 1 q0 _ r3 kCW kCW kCW kCW).mono ?_;rintro e w4 ⟨⟨q,rfl,hq3,hq4⟩,r4,g4⟩;have z4:=zAf g4 z3 kCW;have g4:=kA9 g3 g4;clear r3 z3 g3;go_wp2_with fail;refine (zGn p q hp0 hp1 hq3 kCW _).mono ?_;rintro e w5 ⟨rfl,hb5⟩;have z5:=zAb hb5 z4;have r5:=r4.below hb5;have g5:=kAi g4 hb5;clear r4 z4 g4;go_wp2_with fail;have hbB:=(kA3 w5.heap.size w5).alloc (kA2 _) (.cells (unitL.map Value.string).toArray 9);refine (zCn R (N+1+4) ⟨w5.heap.size,0,none⟩ unitL _ (r5.below hbB) kCW (zFA w5 R unitL r5.lt) kD0 kD0).mono ?_;rintro e w6 ⟨⟨u,rfl,hu⟩,r6,g6⟩;have hu:=kA1 hu;have z6:=zAf g6 (zAb hbB z5) kCW;have g6:=kA9 (kAi g5 hbB) g6;clear hbB r5 z5 g5;obtain⟨⟨q0',q1',q2',q3',q4',q5'⟩,⟨f0,f1,f2,f3,f4,f5⟩,xl2⟩:=zA9 z6;go_wp2;exact kAg (zAe Tryz.results13 _ _ w.heap.size 31 _ (0,0) _ rfl (fin6 _ _ _ _ _ _ z6) Tryz.underlying31 rfl zB6) rfl
    ⟨⟨0,ratS p q,u,0,[]⟩,_,rfl,.lit _ p q u hp0 hp1 hq3 kCW hu.out,Ex.leaf (w:=set6 w6 w.heap.size _ _ _ _ _ _) _ rfl,((r6.more kCW).far (zCs _ _ _ _ _ _ _) (fun b e=>by injection e with e;omega)),zCq g6 (zCs _ _ _ _ _ _ _) (fun b e=>by injection e with e;omega)⟩
 | false =>
  go_wp2_with fail;have hbA:=(kA3 w0.heap.size w0).alloc (kA2 _) (.cells (opL.map (Value.int .i64)).toArray 3);refine (zDq R (N+1) ⟨w0.heap.size,0,none⟩ opL _ (rq.below hbA) kCW (zEI w0 R opL rq.lt) kD0 kD0).mono ?_;rintro e w1 ⟨⟨op,rfl,hop⟩,r1,g1⟩;have z1:=zAf g1 (zAb hbA zq) kCW;have g1:=kA9 (kAi gq hbA) g1;have hop:=kA1 hop;clear hbA rq zq gq
  go_upto_block 0 with (fail)
  have hX:=zA4 w1 (.cells #[.int .i64 op,.string ⟨#[]⟩,.string ⟨#[]⟩,.string ⟨#[]⟩,.int .i64 0,.slice none 0 0] 31);have zX:=(kA4 w1 (.cells #[.int .i64 op,.string ⟨#[]⟩,.string ⟨#[]⟩,.string ⟨#[]⟩,.int .i64 0,.slice none 0 0] 31) _ (zA5 z1)).trans z1;have hBX:=(kA3 w1.heap.size w1).alloc (kA2 _) (.cells #[.int .i64 op,.string ⟨#[]⟩,.string ⟨#[]⟩,.string ⟨#[]⟩,.int .i64 0,.slice none 0 0] 31);have rX:=r1.below hBX;have gX:=kAi g1 hBX;have hXw:w.heap.size<w1.heap.size:=zA5 z1;generalize hXX:w1.heap.size=X at *;generalize w1.alloc (.cells #[.int .i64 op,.string ⟨#[]⟩,.string ⟨#[]⟩,.string ⟨#[]⟩,.int .i64 0,.slice none 0 0] 31)=W at *;clear hBX r1 z1 g1 hXX;go_cut [6] (fun v6 wc=>∃(many:Nat) (name:ByteArray) (size:Int),v6=.int .i64 many∧Hid (nodeOk op name size many)∧Rod wc R (N+5)∧Hid (wc.heap[X]?=some (.cells #[.int .i64 op,.string ⟨#[]⟩,.string ⟨#[]⟩,.string name,.int .i64 size,.slice none 0 0] 31 (0,0)))∧Hid (wc.heap[w.heap.size]?=some zO)∧w.grownBy wc (some R))
  case first =>
   have hmem:=hop.out;simp only[opL,kAU,kBD,kCQ] at hmem;have hXl:=zA5 hX;obtain⟨⟨q0,q1,q2,q3,q4,q5⟩,⟨f0,f1,f2,f3,f4,f5⟩,xl2⟩:=zA9 hX;rcases hmem with rfl | rfl | rfl | rfl | rfl | rfl | rfl | rfl | rfl | rfl | rfl | rfl | rfl | rfl | rfl
   ·go_wp2
    go_meet
    exact⟨1,eB,0,rfl,kA1 (.inl ⟨rfl,rfl,rfl,rfl⟩),rX.more kCW,kA1 hX,kA1 zX,gX⟩
   ·go_wp2
    go_meet
    exact⟨2,eB,0,rfl,kA1 (.inr (.inl ⟨kCY,rfl,rfl,rfl⟩)),rX.more kCW,kA1 hX,kA1 zX,gX⟩
   ·go_wp2
    go_meet
    exact⟨2,eB,0,rfl,kA1 (.inr (.inl ⟨kCY,rfl,rfl,rfl⟩)),rX.more kCW,kA1 hX,kA1 zX,gX⟩
   ·go_wp2
    go_meet
    exact⟨2,eB,0,rfl,kA1 (.inr (.inl ⟨kCY,rfl,rfl,rfl⟩)),rX.more kCW,kA1 hX,kA1 zX,gX⟩
   ·go_wp2
    go_meet
    exact⟨2,eB,0,rfl,kA1 (.inr (.inl ⟨kCY,rfl,rfl,rfl⟩)),rX.more kCW,kA1 hX,kA1 zX,gX⟩
   ·go_wp2
    go_meet
    exact⟨2,eB,0,rfl,kA1 (.inr (.inl ⟨kCY,rfl,rfl,rfl⟩)),rX.more kCW,kA1 hX,kA1 zX,gX⟩
   ·go_wp2
    go_meet
    exact⟨2,eB,0,rfl,kA1 (.inr (.inl ⟨kCY,rfl,rfl,rfl⟩)),rX.more kCW,kA1 hX,kA1 zX,gX⟩
   ·clear q0 q1 q2 q3 q4 q5 f0 f1 f2 f3 f4 f5;go_wp2_with fail;refine (zCQ R (N+1+1) (-9) 9 _ rX kCW kCW kCW kCW).mono ?_;rintro e w2 ⟨⟨x,rfl,hx0,hx1⟩,r2,g2⟩;have hX2:=zAf g2 hX kCW;have zX2:=zAf g2 zX kCW;have gX2:=kA9 gX g2;obtain⟨⟨q0,q1,q2,q3,q4,q5⟩,⟨f0,f1,f2,f3,f4,f5⟩,xl2⟩:=zA9 hX2;go_wp2
    go_meet
    exact⟨1,eB,x,rfl,kA1 (.inr (.inr (.inl ⟨rfl,rfl,⟨hx0,hx1⟩,rfl⟩))),(r2.more kCW).put kCW 4 _,kA1 (zAa hX2 4 _),kA1 ((kA7 _ _ _ _ kDe).trans zX2),zCV gX2 kCW 4 _⟩
   ·clear q0 q1 q2 q3 q4 q5 f0 f1 f2 f3 f4 f5;go_wp2_with fail;refine (zCQ R (N+1+1) 1 3 _ rX kCW kCW kCW kCW).mono ?_;rintro e w2 ⟨⟨x,rfl,hx0,hx1⟩,r2,g2⟩;have hX2:=zAf g2 hX kCW;have zX2:=zAf g2 zX kCW;have gX2:=kA9 gX g2;obtain⟨⟨q0,q1,q2,q3,q4,q5⟩,⟨f0,f1,f2,f3,f4,f5⟩,xl2⟩:=zA9 hX2;go_wp2
    go_meet
    exact⟨x.toNat,eB,0,toNat_val kCW,kA1 (.inr (.inr (.inr (.inl ⟨rfl,rfl,rfl,kCW,kCW⟩)))),r2.more kCW,kA1 hX2,kA1 zX2,gX2⟩
   ·go_wp2
    go_meet
    exact⟨2,eB,0,rfl,kA1 (.inr (.inl ⟨kCY,rfl,rfl,rfl⟩)),rX.more kCW,kA1 hX,kA1 zX,gX⟩
   ·clear q0 q1 q2 q3 q4 q5 f0 f1 f2 f3 f4 f5;go_wp2_with fail;refine (zEx R (N+1+1) _ rX kCW).mono ?_;rintro e w2 ⟨⟨s,rfl,hs⟩,r2,g2⟩;have hs:=kA1 hs;have hX2:=zAf g2 hX kCW;have zX2:=zAf g2 zX kCW;have gX2:=kA9 gX g2;go_wp2_with fail;have hbA:=(kA3 w2.heap.size w2).alloc (kA2 _) (.cells (([3,99]:List Int).map (Value.int .i64)).toArray 3);refine (zDq R (N+1+1+1) ⟨w2.heap.size,0,none⟩ [3,99] _ (r2.below hbA) kCW (zEI w2 R [3,99] r2.lt) kD0 kD0).mono ?_;rintro e w3 ⟨⟨t,rfl,ht⟩,r3,g3⟩;have ht:1≤t∧t≤99:=by simp at ht;omega
    obtain⟨ht1,ht2⟩:=ht;have hX3:=zAf g3 (zAb hbA hX2) kCW;have zX3:=zAf g3 (zAb hbA zX2) kCW;have gX3:=kA9 (kAi gX2 hbA) g3;clear hbA hX2 zX2 gX2 g2 r2;go_wp2_with fail;refine (zCQ R (N+1+1+1+1) 1 t _ r3 kCW kCW kCW kCW).mono ?_;rintro e w4 ⟨⟨x,rfl,hx0,hx1⟩,r4,g4⟩;have hX4:=zAf g4 hX3 kCW;have zX4:=zAf g4 zX3 kCW;have gX4:=kA9 gX3 g4;obtain⟨⟨q0,q1,q2,q3,q4,q5⟩,⟨f0,f1,f2,f3,f4,f5⟩,xl2⟩:=zA9 hX4;go_wp2
    go_meet
    exact⟨1,s,x,rfl,kA1 (.inr (.inr (.inr (.inr (.inl ⟨kCY,hs.out,⟨hx0,kCW⟩,rfl⟩))))),((r4.more kCW).put kCW 3 _).put kCW 4 _,kA1 (zAa (zAa hX4 3 _) 4 _),kA1 ((kA7 _ _ _ _ kDe).trans ((kA7 _ _ _ _ kDe).trans zX4)),zCV (zCV gX4 kCW 3 _) kCW 4 _⟩
   ·clear q0 q1 q2 q3 q4 q5 f0 f1 f2 f3 f4 f5;go_wp2_with fail;refine (zEx R (N+1+1) _ rX kCW).mono ?_;rintro e w2 ⟨⟨s,rfl,hs⟩,r2,g2⟩;have hs:=kA1 hs;have hX2:=zAf g2 hX kCW;have zX2:=zAf g2 zX kCW;have gX2:=kA9 gX g2;go_wp2_with fail;have hbA:=(kA3 w2.heap.size w2).alloc (kA2 _) (.cells (([3,99]:List Int).map (Value.int .i64)).toArray 3);refine (zDq R (N+1+1+1) ⟨w2.heap.size,0,none⟩ [3,99] _ (r2.below hbA) kCW (zEI w2 R [3,99] r2.lt) kD0 kD0).mono ?_;rintro e w3 ⟨⟨t,rfl,ht⟩,r3,g3⟩;have ht:1≤t∧t≤99:=by simp at ht;omega
    obtain⟨ht1,ht2⟩:=ht;have hX3:=zAf g3 (zAb hbA hX2) kCW;have zX3:=zAf g3 (zAb hbA zX2) kCW;have gX3:=kA9 (kAi gX2 hbA) g3;clear hbA hX2 zX2 gX2 g2 r2;go_wp2_with fail;refine (zCQ R (N+1+1+1+1) 1 t _ r3 kCW kCW kCW kCW).mono ?_;rintro e w4 ⟨⟨x,rfl,hx0,hx1⟩,r4,g4⟩;have hX4:=zAf g4 hX3 kCW;have zX4:=zAf g4 zX3 kCW;have gX4:=kA9 gX3 g4;obtain⟨⟨q0,q1,q2,q3,q4,q5⟩,⟨f0,f1,f2,f3,f4,f5⟩,xl2⟩:=zA9 hX4;go_wp2
    go_meet
    exact⟨1,s,x,rfl,kA1 (.inr (.inr (.inr (.inr (.inl ⟨kCY,hs.out,⟨hx0,kCW⟩,rfl⟩))))),((r4.more kCW).put kCW 3 _).put kCW 4 _,kA1 (zAa (zAa hX4 3 _) 4 _),kA1 ((kA7 _ _ _ _ kDe).trans ((kA7 _ _ _ _ kDe).trans zX4)),zCV (zCV gX4 kCW 3 _) kCW 4 _⟩
   ·go_wp2
    go_meet
    exact⟨4,eB,0,rfl,kA1 (.inr (.inr (.inr (.inr (.inr (.inl ⟨rfl,rfl,rfl,rfl⟩)))))),rX.more kCW,kA1 hX,kA1 zX,gX⟩
   ·clear q0 q1 q2 q3 q4 q5 f0 f1 f2 f3 f4 f5;go_wp2_with fail;refine (zEx R (N+1+1) _ rX kCW).mono ?_;rintro e w2 ⟨⟨s,rfl,hs⟩,r2,g2⟩;have hs:=kA1 hs;have hX2:=zAf g2 hX kCW;have zX2:=zAf g2 zX kCW;have gX2:=kA9 gX g2;obtain⟨⟨q0,q1,q2,q3,q4,q5⟩,⟨f0,f1,f2,f3,f4,f5⟩,xl2⟩:=zA9 hX2;go_wp2
    go_meet
    exact⟨2,s,0,rfl,kA1 (.inr (.inr (.inr (.inr (.inr (.inr (.inl ⟨rfl,hs.out,rfl,rfl⟩))))))),(r2.more kCW).put kCW 3 _,kA1 (zAa hX2 3 _),kA1 ((kA7 _ _ _ _ kDe).trans zX2),zCV gX2 kCW 3 _⟩
   ·clear q0 q1 q2 q3 q4 q5 f0 f1 f2 f3 f4 f5;go_wp2_with fail;refine (zDB R (N+1+1) 3 _ rX kCW kCW kCW).mono ?_;rintro e w2 ⟨⟨x,rfl,hx0,hx1⟩,r2,g2⟩;have hX2:=zAf g2 hX kCW;have zX2:=zAf g2 zX kCW;have gX2:=kA9 gX g2;go_wp2_with fail;have hbB:=(kA3 w2.heap.size w2).alloc (kA2 _) (.cells (callL.map Value.string).toArray 9);refine (zCn R (N+1+1+1) ⟨w2.heap.size,0,none⟩ callL _ (r2.below hbB) kCW (zFA w2 R callL r2.lt) kD0 kD0).mono ?_;rintro e w3 ⟨⟨s,rfl,hs⟩,r3,g3⟩;have hs:=kA1 hs;have hX3:=zAf g3 (zAb hbB hX2) kCW;have zX3:=zAf g3 (zAb hbB zX2) kCW;have gX3:=kA9 (kAi gX2 hbB) g3;clear hbB hX2 zX2 gX2 g2 r2;obtain⟨⟨q0,q1,q2,q3,q4,q5⟩,⟨f0,f1,f2,f3,f4,f5⟩,xl2⟩:=zA9 hX3;go_wp2
    go_meet
    exact⟨x.toNat,s,0,toNat_val kCW,kA1 (.inr (.inr (.inr (.inr (.inr (.inr (.inr ⟨rfl,hs.out,rfl,kCW⟩))))))),(r3.more kCW).put kCW 3 _,kA1 (zAa hX3 3 _),kA1 ((kA7 _ _ _ _ kDe).trans zX3),zCV gX3 kCW 3 _⟩
  case rest =>
   obtain⟨many,name,size,rfl,hk,rc,hX,zc,gc⟩:=hcut;have hmany:=nodeOk_le hk.out;have G0:Grow w R X (N+5+0*cost n) n op name size [] wc (.slice none 0 0):=⟨zc.out,hX.out,Kd.R_nil _ _ _ _ _,rc.more kCW,gc,hXw,hRl,fun y hy=>by cases hy⟩;have hsub:IntKind.i64.wrap (m-1)=m-1:=by simp[IntKind.wrap,IntKind.bits,IntKind.signed];omega
   clear hX zc gc rc zX rX gX hop;go_wp2_with fail;go_loopg [7] many (fun k v7 wr=>∃(j:Nat) (xs:List S31) (v5:Value),v7=.int .i64 j∧j+k=many∧Hid (xs.length=j)∧Grow w R X (N+5+j*cost n) n op name size xs wr v5)
   case atStart=>exact⟨0,[],_,rfl,kCW,kA1 rfl,G0⟩
   case round =>
    clear G0;obtain⟨j,xs,v5,rfl,hjk,hxl,G⟩:=hrel;by_cases hj:j<many
    ·have Gd:=G.below ((kA3 _ wr).drew);obtain⟨A,c,rfl⟩:=Kd.R_slice G.row;have hbound:N+5+j*cost n+cost n≤900000:=by
      have:=kBg (cost n) (show j+1≤4 by omega);rw[kCR,kBJ] at this;omega
     have hcall:=HI.out _ _ Gd.rod hbound;have KK:wr.drew.cell? ⟨X,5,none⟩=some (.slice A xs.length c):=zA1 Gd.blk 5;have hlen:(xs.length+1)*88≤140737488355328:=by have:=hxl.out;omega
     clear G;go_wp2_with fail;refine zEb (n:=10) (S:=fun w'=>w'.cell? ⟨X,5,none⟩=some (.slice A xs.length c)) (ds:=[9]) #[false,false,false,false,false,false,false,false,false,false] kCX rfl rfl (KK) (fun hHeld=>?_);refine zAu (i:=0) (N:=some 80) (v:=?_) (a':=?_) #[true,false,false,false,false,false,false,false,false,false] rfl rfl kCX (fun _ _ _ h=>h) (Or.inl ⟨kD9,?_⟩) ?_ ?_;rotate_left
     ·intro w';go_simp
      with_reducible rfl
     rotate_left
     ·simp only[Act.put,kA0,List.set_cons_zero,List.set_cons_succ,zAg,zAh];rfl
     refine zAu (i:=2) (N:=some 82) (v:=?_) (a':=?_) #[true,false,true,false,false,false,false,false,false,false] rfl rfl kCX (fun _ _ _ h=>h) (Or.inl ⟨kD9,?_⟩) ?_ ?_;rotate_left
     ·intro w';go_simp
      with_reducible rfl
     rotate_left
     ·simp only[Act.put,kA0,List.set_cons_zero,List.set_cons_succ,zAg,zAh];rfl
     refine zAu (i:=3) (N:=some 83) (v:=?_) (a':=?_) #[true,false,true,true,false,false,false,false,false,false] rfl rfl kCX (fun _ _ _ h=>h) (Or.inl ⟨kD9,?_⟩) ?_ ?_;rotate_left
     ·intro w';go_simp
      with_reducible rfl
     rotate_left
     ·simp only[Act.put,kA0,List.set_cons_zero,List.set_cons_succ,zAg,zAh];rfl
     refine zAu (i:=4) (N:=some 84) (v:=?_) (a':=?_) #[true,false,true,true,true,false,false,false,false,false] rfl rfl kCX (fun _ _ _ h=>h) (Or.inl ⟨kD9,?_⟩) ?_ ?_;rotate_left
     ·intro w';go_simp
      with_reducible rfl
     rotate_left
     ·simp only[Act.put,kA0,List.set_cons_zero,List.set_cons_succ,zAg,zAh];rfl
     refine zE5 (i:=1) (N:=some 81) (v:=?_) (a':=?_) #[true,true,true,true,true,false,false,false,false,false] rfl rfl kCX (fun _ _ _ h=>h) (Or.inl ⟨kD9,?_⟩) hHeld ?_ ?_;rotate_left
     ·intro w' s0;go_simp
      with_reducible rfl
     rotate_left
     ·simp only[Act.put,kA0,List.set_cons_zero,List.set_cons_succ,zAg,zAh];rfl
     refine one_ (i:=5) (N:=some 85) #[true,true,true,true,true,true,false,false,false,false] rfl rfl kCX kD0 (fun K hK=>?_);refine goes_ Tryz.func13 kCX rfl #[.pointer (some ⟨R,0,none⟩),.int .i64 (m-1)] kD9 rfl rfl kDi ?_
     with_reducible refine (hcall).mono ?_
     rintro e w2⟨y,vy,rfl,hy,hey,ry,gy⟩;refine⟨_,rfl,?_⟩;obtain⟨vy5,A5,n5,c5,rfl,rfl,_,my⟩:=hey.cells;unfold exV;have KK2:=zA1 (zAf gy Gd.blk (by have:=Gd.own;have:=Gd.far;omega)) 5;refine hK.out _ _ (KK2) (fun hHeld=>?_);clear hK K;refine zCe (a':=?_) ?_ ?_;rotate_left
     ·show Act.put _ (some 85) _=_;simp only[Act.put,kA0,List.set_cons_zero,List.set_cons_succ,zAg,zAh];rfl
     refine one_ (i:=6) (N:=some 86) #[true,true,true,true,true,true,true,false,false,false] rfl rfl kCX kD0 (fun K hK=>?_);refine zFH (w1:=?_) (v:=?_) kD9 rfl ?_ ?_;rotate_left 2
     ·go_simp;constructor
      ·rfl
      ·rfl
     refine hK.out _ _ ((zA0 ((kA3 _ _).alloc (kA2 _) _) KK2)) (fun hHeld=>?_);clear hK K;refine zCe (a':=?_) ?_ ?_;rotate_left
     ·show Act.put _ (some 86) _=_;simp only[Act.put,kA0,List.set_cons_zero,List.set_cons_succ,zAg,zAh];rfl
     refine one_ (i:=7) (N:=some 87) #[true,true,true,true,true,true,true,true,false,false] rfl rfl kCX kD0 (fun K hK=>?_);have row2:=Kd.R_grown Gd.row gy (fun k hk e=>by injection e with e;have:=hk.1;have:=Gd.own;omega);have hokp:∀k,From wr.drew.heap.size k→Sx w X k∧some k≠(Value.slice A xs.length c).ownBlock:=(fun k hk=>⟨⟨by have:=zA5 Gd.res;have:wr.drew.heap.size≤k:=hk;omega,by have:=zA5 Gd.blk;have:wr.drew.heap.size≤k:=hk;omega⟩,Kd.fresh_ok Gd.row k hk⟩);have hfresh:∀k,w2.heap.size≤k→Sx w X k:=(fun k hk=>⟨by have:=zA5 Gd.res;have:=gy.size;omega,by have:=zA5 Gd.blk;have:=gy.size;omega⟩);have HB:=(kA3 0 w).grown (kA9 Gd.low gy) (kAI _) (fun _ _=>kAI _);refine Kd.R_append_step k31 (w0:=w) (W:=w2) 0 rfl (.tmp 81) (.tmp 86) 29 31 _ 88 rfl Tryz.underlying29 info31 rfl kD0 kD0 (.slice A xs.length c) xs y _ (Sx w X) (From wr.drew.heap.size) rfl rfl my hokp hfresh row2 HB (kAI _) hlen ?_;intro v1 w4 hrow hb4 hg4 hat4;obtain⟨A1,c1,rfl⟩:=Kd.R_slice hrow;obtain⟨hX4,G4⟩:=Gd.next hy ry gy hrow hg4
     have KK4:=zA1 hX4 5;have F5:=zA2 hX4 5;clear hrow hb4 hg4 hat4 row2 hokp hfresh HB my hey gy ry;refine hK.out _ _ (KK4) (fun hHeld=>?_);clear hK K;refine zCe (a':=?_) ?_ ?_;rotate_left
     ·show Act.put _ (some 87) _=_;simp only[Act.put,kA0,List.set_cons_zero,List.set_cons_succ,zAg,zAh];rfl
     refine zAu (i:=8) (N:=some 88) (v:=?_) (a':=?_) #[true,true,true,true,true,true,true,true,true,false] rfl rfl kCX (fun _ _ _ h=>h) (Or.inl ⟨kD9,?_⟩) ?_ ?_;rotate_left
     ·intro w';go_simp
      with_reducible rfl
     rotate_left
     ·simp only[Act.put,kA0,List.set_cons_zero,List.set_cons_succ,zAg,zAh];rfl
     refine last_ (i:=9) (N:=none) #[true,true,true,true,true,true,true,true,true,true] rfl rfl kCX kD0 (fun K hK=>?_);refine skip_ (w1:=?_) kD9 rfl ?_ ?_;rotate_left
     ·go_simp;rfl
     refine hK.out _ _ ?_;clear hK K;refine done_ kCX ?_;go_wp2_with fail;go_roundg (gk-1)
     case measure=>omega
     case rel=>exact⟨j+1,xs++[y],_,by go_num,kCW,kA1 (by rw[kAw,hxl.out];rfl),by rw[kCR,kBJ,← Nat.add_assoc];have h:=G4;rw[kAw] at h;exact h⟩
    ·obtain rfl:j=many:=kCW
     obtain⟨A,c,rfl⟩:=Kd.R_slice G.row;obtain⟨⟨x0,x1,x2,x3,x4,x5⟩,_,xxl⟩:=zA9 G.blk;obtain⟨⟨q0,q1,q2,q3,q4,q5⟩,⟨f0,f1,f2,f3,f4,f5⟩,xl2⟩:=zA9 G.res;have hcost:N+5+j*cost n≤N+cost (n+1):=by
      have:=kBg (cost n) hmany;omega
     have HC:=kA1 hcost;have GG:=kA1 G;clear G hcost;go_wp2;have G:=GG.out;exact kAg (zAe Tryz.results13 _ _ w.heap.size 31 _ (0,0) _ rfl (fin6 _ _ _ _ _ _ G.res) Tryz.underlying31 rfl zB6) rfl
      ⟨⟨op,z28,name,size,xs⟩,_,rfl,.node n op name size xs (by rw[hxl.out];exact hk.out) G.all,⟨_,rfl,Kd.R_mono (Kd.R_grown G.row (zCs _ _ _ _ _ _ _) (fun k hk e=>by injection e with e;have:=hk.1;omega)) (fun k hk=>kAN hk.1)⟩,
       ((G.rod.more HC.out).far (zCs _ _ _ _ _ _ _) (fun b e=>by injection e with e;omega)),zCq G.low (zCs _ _ _ _ _ _ _) (fun b e=>by injection e with e;omega)⟩
theorem zDT:∀(n:Nat) (hn:n≤900) (R N:Nat) (w:World),Rod w R N→N+cost n≤900000→Calls Tryz.prog 13 #[.pointer (some ⟨R,0,none⟩),.int .i64 (n+1:Int)] w (zFC R N n w)
 | 0,_,R,N,w,hR,hN=>ExprOf_leaf R N w hR kCW _ kCW
 | n+1,hn,R,N,w,hR,hN=>ExprOf_step R N n _ w hR hN kCW kCW (fun M w h hM=>by
   have e:((n+1:Nat):Int)+1-1=(n:Int)+1:=kCW
   rw[e];exact zDT n kCW R M w h hM)
end Go.Proofs.YtjaobihcdkjmbaaGreatDoor
end
section
namespace Go.Proofs.YtjaobihcdkjmbaaGreatDoor
open Go.RowKit Go.Proofs.YtjaobihcdkjmbaaGreatDoorW.PrintWords Go.Proofs.YtjaobihcdkjmbaaGreatDoor.PReadTokens
structure ReadT (chk:S28→Int) (s:ByteArray):Prop where
 size:s.size≤2000
 few:(zA6 s).length≤100000
 small:∀t∈zA6 s,t.f1.size≤2000
 pars:∀W0 R B,Env W0 R B (zA6 s)→Start W0→Pars W0 R B (zA6 s) s.size 134 (zD8 (zA6 s) s.size chk ((zA6 s).length+1)) 0
theorem whole2 (chk:S28→Int) (s:ByteArray) (h:ReadT chk s) (X:Nat) (w:World) (hS:Start w) (hX0:X≠0) {x0 x1 x2 x3 x4 x5:Value} (hX:w.heap[X]?=some (.cells #[x0,x1,x2,x3,x4,x5] 31 (0,0))) :
  Calls Tryz.prog 55 #[.string s,.func (.func 56) #[] #[.pointer (some ⟨X,0,none⟩)]] w (zBQ chk s X w):=by
 have hXl:=zA5 hX;have hmf:∀(fn:Fn) (first cap:Array Value) (w:World),(Instr.makeFunc fn first cap).run Tryz.prog w=.ok (.func fn first cap) w:=fun _ _ _ _=>rfl
 have hb0:Below w.heap.size w (w.alloc (.cells #[.int .i64 0] 3)):=(kA3 _ w).alloc (kA2 _) _;have hnr:=zDP s h.size (w.alloc (.cells #[.int .i64 0] 3));have h0:(w.alloc (.cells #[.int .i64 0] 3)).heap[w.heap.size]?=some (.cells #[.int .i64 0] 3 (0,0)):=zA4 w _;go_enter_defers Tryz.func55,Tryz.ntmps55;go_wp2_with fail;refine hnr.mono ?_;rintro e w1 ⟨R,rfl,hR,hrd,hb1⟩;have hR':=hR;simp only[kAC] at hR;have hX1:w1.heap[X]?=some (.cells #[x0,x1,x2,x3,x4,x5] 31 (0,0)):=zAb hb1 ((kA4 _ _ _ hXl).trans hX);have hs1:w1.heap[w.heap.size]?=some (.cells #[.int .i64 0] 3 (0,0)):=zAb hb1 h0;have hw1:Below w.heap.size w w1:=hb0.trans (hb1.mono kCY);have hXR:X≠R:=kCW
 have hE:Env (w.alloc (.cells #[.int .i64 0] 3)) R w1.heap.size (zA6 s):=⟨hS.laid.below hb0,hR',hrd.lt,h.few,h.small⟩;have hp:=h.pars _ R _ hE (hS.below hb0) 0 w1 (kA2 _) ⟨hrd,hb1,kA2 _,kAI _⟩;have h56:=do56 R X (zA6 s) 0 s.size w1 hrd _ hX1 hXR hp;have hfew:=h.few;have herr:=hS.err;change Calls _ _ _ _ (zGo w1 R X (zA6 s) s.size (zBK chk s)) at h56;have hq:∃q,q=zBk chk s:=⟨_,rfl⟩;unfold zBk at hq
 cases hr:zBK chk s with
 | error p =>
  rw[hr] at h56 hq;obtain⟨q,hq⟩:=hq;unfold zGo zAk at h56;clear hE hp h;go_wp2_with fail;refine h56.mono ?_;rintro e w2 ⟨rfl,hg2⟩;have hw2:w.grownBy w2 (some R):=kA9 (kAi (kAJ _ _) hw1) hg2;have hs2:=zAf hg2 hs1 kCW;have hX2:=zAf hg2 hX1 hXR;have hc2:w2.cell? ⟨0,0,none⟩=some (.iface 209 (.agg #[.pointer (some ⟨7,134,none⟩)])):=zA0 (hw1.grown hg2 hw1.size (fun j e=>by injection e with e;omega)) herr;go_wp2;refine kBT (f:=90) (args:=#[.pointer (some ⟨w.heap.size,0,none⟩)]) kCY kDc ?_;refine (zCb w.heap.size p (.int .i64 0) [] w2 hs2 hc2).mono ?_;rintro e u w3 ⟨rfl,rfl,hs3,hg3⟩;have c4:w3.cell? ⟨w.heap.size,0,none⟩=some (.int .i64 p):=zA1 hs3 0;have hfin:zBQ chk s X w (.returned (.int .i64 p)) w3:=by
   refine⟨?_,?_,?_⟩
   ·unfold zBk;rw[hr]
   ·exact zDn _ (kA9 (zDn _ hw2 kCW) hg3) (kA2 _)
   ·intro x hx;rw[hr] at hx;cases hx
  simp[Leaves,settle,results,Tryz.results55,go_sem,c4,hfin]
 | ok r =>
  obtain⟨x,n⟩:=r;rw[hr] at h56 hq;obtain⟨q,hq⟩:=hq;unfold zGo at h56;clear hE hp h;go_wp2_with fail;refine h56.mono ?_;rintro e w2 ⟨hn,rfl,v5,w5,hk,hx,rfl⟩;have hX5:=hk.blk hX1 hXR;have hrd3:=hk.rdr.set6 hX5 hXR (.int .i64 x.f0) (.string x.f1.f0) (.string x.f1.f1) (.string x.f2) (.int .i64 x.f3) v5;have hX3:=fin6 (.int .i64 x.f0) (.string x.f1.f0) (.string x.f1.f1) (.string x.f2) (.int .i64 x.f3) v5 hX5;have hws:w.heap.size<w1.heap.size:=zA5 hs1;have hx3:=hx.set6 (R:=X) (fun k hk e=>by have:w1.heap.size≤k:=hk;omega) (.int .i64 x.f0) (.string x.f1.f0) (.string x.f1.f1) (.string x.f2) (.int .i64 x.f3) v5;have hg3:w.grownBy (set6 w5 X (.int .i64 x.f0) (.string x.f1.f0) (.string x.f1.f1) (.string x.f2) (.int .i64 x.f3) v5) (some X) :=
   kA9 (zDn _ (kA9 (kAi (kAJ _ _) hw1) hk.grown) kCW) (zCs _ _ _ _ _ _ _)
  have hs3:(set6 w5 X (.int .i64 x.f0) (.string x.f1.f0) (.string x.f1.f1) (.string x.f2) (.int .i64 x.f3) v5).heap[w.heap.size]?=some (.cells #[.int .i64 0] 3 (0,0)) :=
   zAf (zCs X _ _ _ _ _ _) (hk.blk hs1 kCW) kCW
  have hsz3:w.heap.size<(set6 w5 X (.int .i64 x.f0) (.string x.f1.f0) (.string x.f1.f1) (.string x.f2) (.int .i64 x.f3) v5).heap.size:=zA5 hs3;generalize set6 w5 X (.int .i64 x.f0) (.string x.f1.f0) (.string x.f1.f1) (.string x.f2) (.int .i64 x.f3) v5=w3 at *;have hc3:=cell_grown hg3 herr (fun e=>hX0 e.symm);obtain⟨d0,g0,d1,d2,hlt3⟩:=hrd3.cells;have hrd4:Rdr w3.drew R (zA6 s) n s.size:=hrd3.keep (kA3 _ w3).drew;obtain⟨A,c,hl0⟩:=zG0 R _ _ _ w3.drew hrd4;have hs4:w3.drew.heap[w.heap.size]?=some (.cells #[.int .i64 0] 3 (0,0)):=zAb (kA3 _ w3).drew hs3;have hg4:w.grownBy w3.drew (some X):=kAi hg3 (kA3 _ w3).drew;have hX4:=zAb (kA3 _ w3).drew hX3;have hx4:=hx3.below (kA3 _ w3).drew;have hc4:=zA0 (kA3 _ w3).drew hc3;by_cases hnl:n=(zA6 s).length
  ·rw[kAb hnl] at hq;subst hnl;have heq:(((zA6 s).length:Int)==(zA6 s).length)=true:=by rw[kAA]
   have hs5:=zAa hs4 0 (.int .i64 (-1));have hf4:=zA2 hs4 0;have hf3:=zA2 hs3 0;have hcc3:=zA1 hs3 0;have hfin:zBQ chk s X w (.returned (.int .i64 (-1))) (w3.setCell ⟨w.heap.size,0,none⟩ (.int .i64 (-1))).drew:=by
    refine⟨?_,?_,?_⟩
    ·unfold zBk;rw[hr];simp
    ·exact kAi (zG2 hg3 ⟨w.heap.size,0,none⟩ (kA2 _) _) (kA3 _ _).drew
    ·intro x' hx';rw[hr] at hx';injection hx' with hx';injection hx' with hx' _;subst hx';refine⟨v5,zAb (kA3 _ _).drew ((kA7 _ _ _ _ kCZ).trans hX3),Ex.mono (Ex.below (Ex.step hx3 (fun k hk hlt=>?_)) (kA3 _ _).drew) (fun k hk=>kAz (kAN hws) hk)⟩;exact kA7 _ _ _ _ (by have:w1.heap.size≤k:=hk;simp;omega)
   go_wp2_with fail;go_still_tail 12,kCX;still_call hl0
   repeat still_step
   try refine kCD ?_
   change wpList _ _ _ _ _ w3.drew;go_wp2_with (go_at_call 93;refine (zDk R _).mono ?_;rintro e w6 ⟨rfl,rfl⟩);have c4:(w3.setCell ⟨w.heap.size,0,none⟩ (.int .i64 (-1))).drew.cell? ⟨w.heap.size,0,none⟩=some (.int .i64 (-1)):=by
    have:=zA1 (zAb (kA3 _ _).drew (zAa hs3 0 (.int .i64 (-1)))) 0;exact this
   generalize (w3.setCell ⟨w.heap.size,0,none⟩ (.int .i64 (-1))).drew=w9 at *;refine kBT (f:=90) (args:=#[.pointer (some ⟨w.heap.size,0,none⟩)]) kCY kDc ?_;refine (catch_idle ⟨w.heap.size,0,none⟩ w9).mono ?_;rintro e u w6 ⟨rfl,rfl,rfl⟩;simp[Leaves,settle,results,Tryz.results55,go_sem,c4,hfin]
  ·rw[kAa hnl] at hq;have heq:((n:Int)==(zA6 s).length)=false:=by rw[kAj];omega
   have hmust:=zBJ R _ _ _ w3.drew hrd4 hn;rw[← hq] at hmust;unfold zAk at hmust;go_wp2_with fail;go_still_tail 12,kCX;still_call hl0
   repeat still_step
   try refine kCD ?_
   change wpList _ _ _ _ _ w3.drew;go_wp2_with (go_at_call 93;refine hmust.mono ?_;rintro e w6 ⟨rfl,hb6⟩);have hs6:=zAb hb6 hs4;have hc6:=zA0 hb6 hc4;refine kBT (f:=90) (args:=#[.pointer (some ⟨w.heap.size,0,none⟩)]) kCY kDc ?_;refine (zCb w.heap.size (tokP (zA6 s) s.size n).f2 (.int .i64 0) [] w6 hs6 hc6).mono ?_;rintro e u w7 ⟨rfl,rfl,hs7,hg7⟩;have c4:w7.cell? ⟨w.heap.size,0,none⟩=some (.int .i64 (tokP (zA6 s) s.size n).f2):=zA1 hs7 0;have hfin:zBQ chk s X w (.returned (.int .i64 (tokP (zA6 s) s.size n).f2)) w7:=by
    refine⟨?_,?_,?_⟩
    ·unfold zBk;rw[hr];simp only[kAa hnl]
    ·have h6:=kAi hg4 hb6;exact⟨hg7.os.trans h6.os,hg7.tape.trans h6.tape,hg7.output.trans h6.output,kAz h6.size hg7.size,fun j hj hne=>(hg7.block j (kBi hj h6.size) (fun e=>by injection e with e;omega)).trans (h6.block j hj hne)⟩
    ·intro x' hx';rw[hr] at hx';injection hx' with hx';injection hx' with _ hx';exact absurd hx' hnl
   simp[Leaves,settle,results,Tryz.results55,go_sem,c4,hfin]
theorem ReadExpr2 (chk:S28→Int) (s:ByteArray) (h:ReadT chk s) (w:World) (hS:Start w) (hpl:zBk chk s<0→∃x,zBK chk s=.ok (x,(zA6 s).length)∧zAm x≤4611686018427387904) :
  Calls Tryz.prog 18 #[.string s] w (zBz chk s w):=by
 have hbig:decide (2000<(s.size:Int))=false:=by rw[kBw];have:=h.size;omega
 have hw:=fun X w hS hX0 x0 x1 x2 x3 x4 x5 hX=>whole2 chk s h X w hS hX0 (x0:=x0) (x1:=x1) (x2:=x2) (x3:=x3) (x4:=x4) (x5:=x5) hX
 have hb0:Below w.heap.size w ((w.alloc zO).alloc zO):=((kA3 _ w).alloc (kA2 _) _).alloc kCY _;have h0:((w.alloc zO).alloc zO).heap[w.heap.size]?=some zO:=(kA4 _ _ _ kCY).trans (zA4 w _);have h1:((w.alloc zO).alloc zO).heap[w.heap.size+1]?=some zO:=by have:=zA4 (w.alloc zO) zO;rwa [kAC] at this
 have hpos:0<w.heap.size:=by have:=kAG w _ hS.err;simpa using this
 have hmf:∀(fn:Fn) (first cap:Array Value) (w:World),(Instr.makeFunc fn first cap).run Tryz.prog w=.ok (.func fn first cap) w:=fun _ _ _ _=>rfl
 have hw1:=hw (w.heap.size+1) _ (hS.below hb0) kCW _ _ _ _ _ _ h1;unfold zBQ at hw1;unfold zO at hw1 h0 h1 hb0;obtain⟨q,hq⟩:∃q,q=zBk chk s:=⟨_,rfl⟩;rw[← hq] at hw1 hpl;have HQ:=kA1 hq;have HS:=kA1 hS;clear hq hw h hS;by_cases hp:0≤q
 ·have hp':decide (0≤q)=true:=kA5 hp;go_enter Tryz.func18,Tryz.ntmps18;go_wp2_with fail;refine hw1.mono ?_;rintro e w2 ⟨rfl,hg2,_⟩;have hb2:=hb0.grown hg2 hb0.size (fun j e=>by injection e with e;omega);have r2:=zAf hg2 h0 kCW;obtain⟨⟨c0,c1,c2,c3,c4,c5⟩,⟨f0,f1,f2,f3,f4,f5⟩,rl⟩:=zA9 r2;go_wp2;have hr:zBN chk s=(z31,q,1):=by unfold zBN;rw[← HQ.out,kAb hp]
  refine kAg (zAR rfl _ _ w.heap.size 31 _ (0,0) _ rfl (fin6 _ _ _ _ _ _ r2) Tryz.underlying31 rfl zB6) rfl ?_;unfold zBz;rw[hr];exact⟨_,rfl,Ex.leaf _ rfl,below6 hb2 (kA2 _) _ _ _ _ _ _⟩
 ·have hp':decide (0≤q)=false:=kA6 hp;obtain⟨x,hx,hnx⟩:=hpl kCW;go_enter Tryz.func18,Tryz.ntmps18;go_wp2_with fail;refine hw1.mono ?_;rintro e w2 ⟨rfl,hg2,hx2⟩;obtain⟨v5,hX2,hE⟩:=hx2 x hx;have hb2:=hb0.grown hg2 hb0.size (fun j e=>by injection e with e;omega);have r2:=zAf hg2 h0 kCW;unfold exC at hX2;obtain⟨⟨q0,q1,q2,q3,q4,q5⟩,_,xl⟩:=zA9 hX2;have hdp:=zFb (zAI x) x (kA2 _) hnx (exV x v5) w2 hE.vw;unfold exV at hdp;obtain⟨A5,n5,c5,rfl⟩:∃A n c,v5=.slice A n c:=by
   obtain⟨v,A,n,c,h1,rfl,_⟩:=hE.cells;unfold exV at h1;injection h1 with h1;simp at h1;exact⟨A,n,c,h1⟩
  have HE:=kA1 hE;have hpR:zBK chk s=.ok (x,(zA6 s).length):=hx;have HX:=kA1 hX2;clear hE hx2 hX2;go_wp2_with fail;refine hdp.mono ?_;rintro e w3 ⟨rfl,hb3⟩;have hf:=field100_1 (zAm x) (zAI x);have r3:=zAb hb3 r2;have x3:=zAb hb3 HX.out;have hE3:=HE.out.below hb3;have hb4:=hb2.trans (hb3.mono hb2.size);obtain⟨⟨c0,c1,c2,c3,c4,c5⟩,⟨f0,f1,f2,f3,f4,f5⟩,rl⟩:=zA9 r3;by_cases hd:30<zAI x
  ·have hd':decide (30<(zAI x:Int))=true:=kA5 kCW;go_wp2;have hr:zBN chk s=(z31,0,7):=by unfold zBN;rw[← HQ.out,kAa (show ¬0≤q by omega),hpR];simp only[kAb hd]
   refine kAg (zAR rfl _ _ w.heap.size 31 _ (0,0) _ rfl (fin6 _ _ _ _ _ _ r3) Tryz.underlying31 rfl zB6) rfl ?_;unfold zBz;rw[hr];exact⟨_,rfl,Ex.leaf _ rfl,below6 hb4 (kA2 _) _ _ _ _ _ _⟩
  ·have hd':decide (30<(zAI x:Int))=false:=kA6 kCW;obtain⟨⟨y0,y1,y2,y3,y4,y5⟩,_,xl3⟩:=zA9 x3;go_wp2;have hr:zBN chk s=(x,0,0):=by unfold zBN;rw[← HQ.out,kAa (show ¬0≤q by omega),hpR];simp only[kAa hd]
   refine kAg (zAR rfl _ _ w.heap.size 31 _ (0,0) _ rfl (fin6 _ _ _ _ _ _ r3) Tryz.underlying31 rfl zB6) rfl ?_;unfold zBz;rw[hr];refine⟨_,rfl,(hE3.set6 (R:=w.heap.size) (fun k hk e=>by have:((w.alloc _).alloc _).heap.size≤k:=hk;simp at this;omega) _ _ _ _ _ _).mono (fun k hk=>?_),below6 hb4 (kA2 _) _ _ _ _ _ _⟩;have:((w.alloc _).alloc _).heap.size≤k:=hk;simp at this;show w.heap.size≤k;omega
end Go.Proofs.YtjaobihcdkjmbaaGreatDoor
end
