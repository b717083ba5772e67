/- What can be read as an expression is printed as a text that reads as the same, and is printed as itself: for every argument; a part of its proof. -/
import Derived.Test.YtjaobihcdkjmbaaGreatDoorDa
import Derived.Test.YtjaobihcdkjmbaaGreatDoorDb
import Derived.Test.YtjaobihcdkjmbaaGreatDoorD0
import Derived.Test.YtjaobihcdkjmbaaGreatDoorD7
import Derived.Test.YtjaobihcdkjmbaaGreatDoorD9
import Derived.Test.YtjaobihcdkjmbaaGreatDoorD10
import Derived.Test.YtjaobihcdkjmbaaGreatDoorD11
import Derived.Test.YtjaobihcdkjmbaaGreatDoorD13
import Derived.Test.YtjaobihcdkjmbaaGreatDoorD14
import Derived.Test.YtjaobihcdkjmbaaGreatDoorD16
import Derived.Test.YtjaobihcdkjmbaaGreatDoorD17
import Derived.Test.YtjaobihcdkjmbaaGreatDoorD19
import Derived.Test.YtjaobihcdkjmbaaGreatDoorD20
import Derived.Test.YtjaobihcdkjmbaaGreatDoorD21
set_option linter.unusedVariables false
set_option linter.unusedSimpArgs false
namespace Go.Proofs.YtjaobihcdkjmbaaGreatDoor.PReadTokens
end Go.Proofs.YtjaobihcdkjmbaaGreatDoor.PReadTokens
namespace Go.Proofs.YtjaobihcdkjmbaaGreatDoorW.PrintWords
end Go.Proofs.YtjaobihcdkjmbaaGreatDoorW.PrintWords
set_option maxRecDepth 100000
set_option maxHeartbeats 8000000
section
namespace Go.Proofs.YtjaobihcdkjmbaaGreatDoor
open Go.RowKit Go.Proofs.YtjaobihcdkjmbaaGreatDoorW.PrintWords Go.Proofs.YtjaobihcdkjmbaaGreatDoor.PReadTokens
structure Mid (W0:World) (R B:Nat) (ts:List S47) (en:Nat) (w wr:World) (n:Nat):Prop where
 st:St W0 R B ts en n wr
 took:Took w R ts n en wr
 res:wr.heap[w.heap.size]?=some zO
theorem Mid.below {W0:World} {R B:Nat} {ts:List S47} {en:Nat} {w wr w1:World} {n:Nat} (G:Mid W0 R B ts en w wr n) (hb:Below wr.heap.size wr w1):Mid W0 R B ts en w w1 n :=
 ⟨G.st.below hb,G.took.below hb,zAa hb G.res⟩
theorem Mid.alloc {W0:World} {R B:Nat} {ts:List S47} {en:Nat} {w wr:World} {n:Nat} (G:Mid W0 R B ts en w wr n) (o:Obj):Mid W0 R B ts en w (wr.alloc o) n:=G.below ((kA3 _ _).alloc (kA2 _) _)
theorem Mid.go {W0:World} {R B:Nat} {ts:List S47} {en:Nat} {w wr w1:World} {n n1:Nat} (E:Env W0 R B ts) (hR:R<w.heap.size) (G:Mid W0 R B ts en w wr n) (k:Took wr R ts n1 en w1) (hn:n1≤ts.length):Mid W0 R B ts en w w1 n1 :=
 ⟨G.st.took E k hn,G.took.trans k,k.blk G.res (kAs hR)⟩
theorem Mid.start {W0:World} {R B:Nat} {ts:List S47} {en:Nat} {w:World} {n:Nat} (h:St W0 R B ts en n w):Mid W0 R B ts en w (w.alloc zO) n :=
 ⟨h.below ((kA3 _ _).alloc (kA2 _) _),(Took.refl h.rdr).alloc _,zA4 _ _⟩
theorem Mid.done {W0:World} {R B:Nat} {ts:List S47} {en:Nat} {w wr:World} {now n:Nat} {x:S31} {v:Value} (G:Mid W0 R B ts en w wr n) (hR:R<w.heap.size) (hx:Ex wr (fun k=>w.heap.size<k) x (exV x v)) (hn:now<n) (v0 v1 v2 v3 v4 v5:Value) :
  zAk w R ts en now (.ok (x,n)) (.returned (exV x v)) (set6 wr w.heap.size v0 v1 v2 v3 v4 v5) :=
 ⟨hn,G.st.pos,_,rfl,(hx.set6 (fun _ hk=>kAs hk) _ _ _ _ _ _).mono (fun _ hk=>kAP hk),G.took.set6 G.res (kAs hR) (kA2 _) _ _ _ _ _ _⟩
theorem Mid.lt {W0:World} {R B:Nat} {ts:List S47} {en:Nat} {w wr:World} {n:Nat} (G:Mid W0 R B ts en w wr n):w.heap.size<wr.heap.size:=zA5 G.res
theorem Mid.set5 {W0:World} {R B:Nat} {ts:List S47} {en:Nat} {w wr:World} {n:Nat} {X:Nat} {cs:Array Value} (E:Env W0 R B ts) (hR:R<w.heap.size) (G:Mid W0 R B ts en w wr n) (hXR:X≠R) (hX:w.heap.size<X) (hb:wr.heap[X]?=some (.cells cs 31 (0,0))) (u:Value) :
  Mid W0 R B ts en w (wr.setCell ⟨X,5,none⟩ u) n:=by
 have hlow:=G.st.low.size;have hk:=G.took.far hb hXR (kAP hX) 5 u;exact⟨⟨hk.rdr,G.st.low.setCell (p:=⟨X,5,none⟩) (by have:=E.own;simp only;omega) _,by rw[kAN];exact G.st.base,G.st.pos⟩,hk,(kA5 _ _ _ _ kDr).trans G.res⟩
theorem atom_lit (W0:World) (R B:Nat) (ts:List S47) (en now:Nat) (w:World) (E:Env W0 R B ts) (h:St W0 R B ts en now w) (h2:(tokP ts en now).f0=2) (r:PR) (hlit:∀w,St W0 R B ts en now w→Calls Tryz.prog 278 #[.pointer (some ⟨R,0,none⟩)] w (zAk w R ts en now r)) :
  Calls Tryz.prog 252 #[.pointer (some ⟨R,0,none⟩)] w (zAk w R ts en now (r)):=by
 have few:=E.few;have hRw:=h.rdr.lt;have M0:=Mid.start h;have hpk:=zB7 R ts now en (w.alloc zO) M0.st.rdr h.pos;unfold tokV at hpk;have HL:=kA1 hlit;have h2':((tokP ts en now).f0==2)=true:=kDA
 generalize tokP ts en now=t at *;clear hlit h h2;have hfd:=zBR t.f0 t.f2 t.f1;go_enter Tryz.func252,Tryz.ntmps252;go_wp2_with fail;refine hpk.mono ?_;rintro e w1 ⟨rfl,hb1⟩;have M1:=(M0.below hb1).alloc (tokO t);have T1:=zA4 w1 (tokO t);have hl:=HL.out _ M1.st
 cases r with
 | error p =>
  unfold zAk zAm at hl;go_wp2_with (go_at_call 278;refine hl.mono ?_;rintro e w2 ⟨rfl,hg⟩);exact⟨rfl,rfl,kA7 M1.took.grown hg⟩
 | ok r =>
  obtain⟨x,n⟩:=r;unfold zAk at hl;go_wp2_with fail;refine hl.mono ?_;rintro e w2 ⟨hn1,hn2,v,rfl,hx,hk⟩;obtain⟨v5,A5,n5,c5,rfl,rfl,_,_⟩:=hx.cells;unfold exV;have M2:=M1.go E hRw hk hn2;have hx2:=hx.mono (fun k hk=>kBs M1.lt hk);obtain⟨⟨q0,q1,q2,q3,q4,q5⟩,⟨f0,f1,f2,f3,f4,f5⟩,xl2⟩:=zA6 M2.res;go_wp2;refine kAi (zAg Tryz.results252 _ _ w.heap.size 31 _ (0,0) _ rfl (fin6 _ _ _ _ _ _ M2.res) Tryz.underlying31 rfl zB6) rfl (M2.done hRw hx2 kD4 _ _ _ _ _ _)
theorem atom_ref (W0:World) (R B:Nat) (ts:List S47) (en now:Nat) (w:World) (E:Env W0 R B ts) (h:St W0 R B ts en now w) (h0:(tokP ts en now).f0=0) (hsk:sk ts en (now+1) ⟨#[40]⟩=false) :
  Calls Tryz.prog 252 #[.pointer (some ⟨R,0,none⟩)] w (zAk w R ts en now (.ok (⟨1,z28,(tokP ts en now).f1,0,[]⟩,now+1))):=by
 have few:=E.few;have hRw:=h.rdr.lt;have M0:=Mid.start h;have hpk:=zB7 R ts now en (w.alloc zO) M0.st.rdr h.pos;unfold tokV at hpk;have Hs:=kA1 (fun w' hr=>zAT R ts (now+1) en ⟨#[40]⟩ w' hr (zBP h0 kD7) hsk);clear hsk;have hlt:=zBP h0 kD7;have h0':((tokP ts en now).f0==0)=true:=by rw[kAA];exact h0
 have h2':((tokP ts en now).f0==2)=false:=by rw[kAd,h0];decide
 generalize tokP ts en now=t at *;clear h h0;have hfd:=zBR t.f0 t.f2 t.f1;go_enter Tryz.func252,Tryz.ntmps252;go_wp2_with fail;refine hpk.mono ?_;rintro e w1 ⟨rfl,hb1⟩;have M1:=(M0.below hb1).alloc (tokO t);have T1:=zA4 w1 (tokO t);obtain⟨c1,f1,c3,c4,lt⟩:=(M0.below hb1).st.rdr.cells;have hb1R:R<w1.heap.size:=kBs M0.st.rdr.lt hb1.size;have K:=Took.next M1.st.rdr (kA3 _ _)
 have M2:=M1.go E hRw K hlt;have T2:=K.blk T1 (kAs hb1R);simp only[kBa,hb1R] at M2 T2;clear K;have hs:=Hs.out _ M2.st.rdr;go_wp2_with fail;refine hs.mono ?_;rintro e w3 ⟨rfl,hk3⟩;have M3:=M2.go E hRw hk3 hlt;have T3:=hk3.blk T2 (kAs hb1R);have d1:=zA1 T3 1;obtain⟨⟨q0,q1,q2,q3,q4,q5⟩,⟨y0,y1,y2,y3,y4,y5⟩,xl2⟩:=zA6 M3.res;go_wp2;refine kAi (zAg Tryz.results252 _ _ w.heap.size 31 _ (0,0) _ rfl (fin6 _ _ _ _ _ _ M3.res) Tryz.underlying31 rfl zB6) rfl (M3.done hRw (Ex.leaf ⟨1,z28,t.f1,0,[]⟩ rfl) kD4 _ _ _ _ _ _)
theorem atom_call0 (W0:World) (R B:Nat) (ts:List S47) (en now:Nat) (w:World) (E:Env W0 R B ts) (h:St W0 R B ts en now w) (h0:(tokP ts en now).f0=0) (hsk:sk ts en (now+1) ⟨#[40]⟩=true) (hs2:sk ts en (now+2) ⟨#[41]⟩=true) :
  Calls Tryz.prog 252 #[.pointer (some ⟨R,0,none⟩)] w (zAk w R ts en now (.ok (⟨14,z28,(tokP ts en now).f1,0,[]⟩,now+3))):=by
 have few:=E.few;have hRw:=h.rdr.lt;have M0:=Mid.start h;have hpk:=zB7 R ts now en (w.alloc zO) M0.st.rdr h.pos;unfold tokV at hpk;have hlt1:=zAv hsk;have hlt2:=zAv hs2;have Hs:=kA1 (fun w' hr=>zAE R ts (now+1) en ⟨#[40]⟩ w' hr few hsk);have Hs2:=kA1 (fun w' hr=>zAE R ts (now+1+1) en ⟨#[41]⟩ w' hr few hs2);clear hsk hs2;have hlt:=zBP h0 kD7;have h0':((tokP ts en now).f0==0)=true:=by rw[kAA];exact h0
 have h2':((tokP ts en now).f0==2)=false:=by rw[kAd,h0];decide
 generalize tokP ts en now=t at *;clear h h0;have hfd:=zBR t.f0 t.f2 t.f1;go_enter Tryz.func252,Tryz.ntmps252;go_wp2_with fail;refine hpk.mono ?_;rintro e w1 ⟨rfl,hb1⟩;have M1:=(M0.below hb1).alloc (tokO t);have T1:=zA4 w1 (tokO t);obtain⟨c1,f1,c3,c4,lt⟩:=(M0.below hb1).st.rdr.cells;have hb1R:R<w1.heap.size:=kBs M0.st.rdr.lt hb1.size;have K:=Took.next M1.st.rdr (kA3 _ _)
 have M2:=M1.go E hRw K hlt;have T2:=K.blk T1 (kAs hb1R);simp only[kBa,hb1R] at M2 T2;clear K;have hs:=Hs.out _ M2.st.rdr;go_wp2_with fail;refine hs.mono ?_;rintro e w3 ⟨rfl,hk3⟩;have M3:=M2.go E hRw hk3 hlt1;have T3:=hk3.blk T2 (kAs hb1R);have d1:=zA1 T3 1;have M4:=M3.alloc (.cells #[.int .i64 14,.string ⟨#[]⟩,.string ⟨#[]⟩,.string t.f1,.int .i64 0,.slice none 0 0] 31);have X4:=zA4 w3 (.cells #[.int .i64 14,.string ⟨#[]⟩,.string ⟨#[]⟩,.string t.f1,.int .i64 0,.slice none 0 0] 31);have hs2:=Hs2.out _ M4.st.rdr;go_wp2_with fail;refine hs2.mono ?_;rintro e w5 ⟨rfl,hk5⟩;have M5:=M4.go E hRw hk5 hlt2;have X5:=hk5.blk X4 (kAs M3.st.rdr.lt);obtain⟨⟨p0,p1,p2,p3,p4,p5⟩,-,xl⟩:=zA6 X5;obtain⟨⟨q0,q1,q2,q3,q4,q5⟩,⟨y0,y1,y2,y3,y4,y5⟩,xl2⟩:=zA6 M5.res;go_wp2;refine kAi (zAg Tryz.results252 _ _ w.heap.size 31 _ (0,0) _ rfl (fin6 _ _ _ _ _ _ M5.res) Tryz.underlying31 rfl zB6) rfl (M5.done hRw (Ex.leaf ⟨14,z28,t.f1,0,[]⟩ rfl) kD4 _ _ _ _ _ _)
theorem atom_call (W0:World) (R B:Nat) (ts:List S47) (en now:Nat) (w:World) (E:Env W0 R B ts) (h:St W0 R B ts en now w) (h0:(tokP ts en now).f0=0) (hsk:sk ts en (now+1) ⟨#[40]⟩=true) (hs2:sk ts en (now+2) ⟨#[41]⟩=false) (r:Except Int (List S31×Nat)) (hlist:∀w',St W0 R B ts en (now+2) w'→Calls Tryz.prog 279 #[.pointer (some ⟨R,0,none⟩),.string ⟨#[41]⟩] w' (zDt w' R ts en (now+2) r)) :
  Calls Tryz.prog 252 #[.pointer (some ⟨R,0,none⟩)] w (zAk w R ts en now (match (generalizing:=false) r with | .error p=>.error p | .ok (xs,n)=>.ok (⟨14,z28,(tokP ts en now).f1,0,xs⟩,n))):=by
 have few:=E.few;have hRw:=h.rdr.lt;have M0:=Mid.start h;have hpk:=zB7 R ts now en (w.alloc zO) M0.st.rdr h.pos;unfold tokV at hpk;have hlt1:=zAv hsk;have Hs:=kA1 (fun w' hr=>zAE R ts (now+1) en ⟨#[40]⟩ w' hr few hsk);have Hs2:=kA1 (fun w' hr=>zAT R ts (now+1+1) en ⟨#[41]⟩ w' hr hlt1 hs2);have HL:=kA1 hlist;clear hsk hs2 hlist;have hlt:=zBP h0 kD7;have h0':((tokP ts en now).f0==0)=true:=by rw[kAA];exact h0
 have h2':((tokP ts en now).f0==2)=false:=by rw[kAd,h0];decide
 generalize tokP ts en now=t at *;clear h h0;have hfd:=zBR t.f0 t.f2 t.f1;have body:∀(Q:Ending→World→Prop),(∀w5:World,True→True)→True:=fun _ _=>trivial
 clear body;go_enter Tryz.func252,Tryz.ntmps252;go_wp2_with fail;refine hpk.mono ?_;rintro e w1 ⟨rfl,hb1⟩;have M1:=(M0.below hb1).alloc (tokO t);have T1:=zA4 w1 (tokO t);obtain⟨c1,f1,c3,c4,lt⟩:=(M0.below hb1).st.rdr.cells;have hb1R:R<w1.heap.size:=kBs M0.st.rdr.lt hb1.size;have K:=Took.next M1.st.rdr (kA3 _ _)
 have M2:=M1.go E hRw K hlt;have T2:=K.blk T1 (kAs hb1R);simp only[kBa,hb1R] at M2 T2;clear K;have hs:=Hs.out _ M2.st.rdr;go_wp2_with fail;refine hs.mono ?_;rintro e w3 ⟨rfl,hk3⟩;have M3:=M2.go E hRw hk3 hlt1;have T3:=hk3.blk T2 (kAs hb1R);have d1:=zA1 T3 1;have M4:=M3.alloc (.cells #[.int .i64 14,.string ⟨#[]⟩,.string ⟨#[]⟩,.string t.f1,.int .i64 0,.slice none 0 0] 31);have X4:=zA4 w3 (.cells #[.int .i64 14,.string ⟨#[]⟩,.string ⟨#[]⟩,.string t.f1,.int .i64 0,.slice none 0 0] 31);have hs2:=Hs2.out _ M4.st.rdr;go_wp2_with fail;refine hs2.mono ?_;rintro e w5 ⟨rfl,hk5⟩;have M5:=M4.go E hRw hk5 hlt1;have hX3R:=kAs M3.st.rdr.lt;have X5:=hk5.blk X4 hX3R;have hl:=HL.out w5 M5.st
 cases r with
 | error p =>
  unfold zDt zAm at hl;go_wp2_with (go_at_call 279;refine hl.mono ?_;rintro e w6 ⟨rfl,hg⟩);exact⟨rfl,rfl,kA7 M5.took.grown hg⟩
 | ok r =>
  obtain⟨xs,n⟩:=r;unfold zDt at hl;have hX5:=zA5 X5;have hw3:=M3.lt;go_wp2_with fail;refine hl.mono ?_;rintro e w6 ⟨hn1,hn2,v,rfl,hx,hk⟩;have M6:=M5.go E hRw hk hn2;have X6:=hk.blk X5 hX3R;obtain⟨ao,n5,c5,rfl⟩:∃ao n5 c5,v=.slice ao n5 c5:=by obtain⟨A,c,h⟩:=Kd.R_slice hx;exact⟨A,_,c,h⟩
  obtain⟨⟨p0,p1,p2,p3,p4,p5⟩,⟨z0,z1,z2,z3,z4,z5⟩,xl⟩:=zA6 X6;have M7:=M6.set5 E hRw hX3R hw3 X6 (.slice ao n5 c5);have hx7:Ex (w6.setCell ⟨w3.heap.size,5,none⟩ (.slice ao n5 c5)) (fun k=>w.heap.size<k) ⟨14,z28,t.f1,0,xs⟩ (exV ⟨14,z28,t.f1,0,xs⟩ (.slice ao n5 c5)) :=
   ⟨_,rfl,Kd.R_mono (Kd.R_step hx (fun k hk _=>kA5 _ _ _ _ (by simp only[From] at hk;simp only;omega))) (fun k hk=>by simp only[From] at hk;omega)⟩
  have X7:=zA8 X6 5 (.slice ao n5 c5);obtain⟨⟨s0,s1,s2,s3,s4,s5⟩,-,-⟩:=zA6 X7;obtain⟨⟨q0,q1,q2,q3,q4,q5⟩,⟨y0,y1,y2,y3,y4,y5⟩,xl2⟩:=zA6 M7.res;go_wp2;refine kAi (zAg Tryz.results252 _ _ w.heap.size 31 _ (0,0) _ rfl (fin6 _ _ _ _ _ _ M7.res) Tryz.underlying31 rfl zB6) rfl (M7.done hRw hx7 kD4 _ _ _ _ _ _)
theorem atom_par (W0:World) (R B:Nat) (ts:List S47) (en now:Nat) (w:World) (E:Env W0 R B ts) (h:St W0 R B ts en now w) (h2:(tokP ts en now).f0≠2) (h0:(tokP ts en now).f0≠0) (hsk:sk ts en now ⟨#[40]⟩=true) (r:PR) (hex:∀w',St W0 R B ts en (now+1) w'→Calls Tryz.prog 134 #[.pointer (some ⟨R,0,none⟩)] w' (zAk w' R ts en (now+1) r)) :
  Calls Tryz.prog 252 #[.pointer (some ⟨R,0,none⟩)] w (zAk w R ts en now (match (generalizing:=false) r with | .error p=>.error p | .ok (x,n)=>if sk ts en n ⟨#[41]⟩=true then .ok (x,n+1) else .error (atP ts en n))):=by
 have few:=E.few;have hRw:=h.rdr.lt;have M0:=Mid.start h;have hpk:=zB7 R ts now en (w.alloc zO) M0.st.rdr h.pos;unfold tokV at hpk;have hlt:=zAv hsk;have Hs:=kA1 (fun w' hr=>zAE R ts now en ⟨#[40]⟩ w' hr few hsk);have HX:=kA1 hex;generalize hres:(match (generalizing:=false) r with | .error p=>.error p | .ok (x,n)=>if sk ts en n ⟨#[41]⟩=true then .ok (x,n+1) else .error (atP ts en n):PR)=res;have Hres:=kA1 hres;clear hsk hex hres;have h0':((tokP ts en now).f0==0)=false:=by rw[kAd];exact h0
 have h2':((tokP ts en now).f0==2)=false:=by rw[kAd];exact h2
 have hnow:=h.pos;generalize tokP ts en now=t at *;clear h h0 h2;have hfd:=zBR t.f0 t.f2 t.f1;go_enter Tryz.func252,Tryz.ntmps252;go_wp2_with fail;refine hpk.mono ?_;rintro e w1 ⟨rfl,hb1⟩;have M1:=(M0.below hb1).alloc (tokO t);have T1:=zA4 w1 (tokO t);have hs:=Hs.out _ M1.st.rdr;go_wp2_with fail;refine hs.mono ?_;rintro e w3 ⟨rfl,hk3⟩;have M3:=M1.go E hRw hk3 hlt;have hx:=HX.out _ M3.st;obtain⟨c1,f1,c3,c4,lt⟩:=M3.st.rdr.cells
 cases r with
 | error p =>
  unfold zAk zAm at hx;go_wp2_with (go_at_call 134;refine hx.mono ?_;rintro e w4 ⟨rfl,hg⟩);rw[← Hres.out];exact⟨rfl,rfl,kA7 M3.took.grown hg⟩
 | ok r =>
  obtain⟨x,n⟩:=r;unfold zAk at hx
  cases hcl:sk ts en n ⟨#[41]⟩ with
  | true =>
   have Hr:Hid (res=.ok (x,n+1)):=by
    show _=_;rw[← Hres.out];simp only[hcl,kCO]
   have hltc:=zAv hcl;have Hcl:=kA1 (fun w' hr=>zBW R ts n en ⟨#[41]⟩ w' hr few hcl);clear hcl;go_wp2_with fail;refine hx.mono ?_;rintro e w4 ⟨hn1,hn2,v,rfl,hv,hk4⟩;obtain⟨v5,A5,n5,c5,rfl,rfl,_,_⟩:=hv.cells;unfold exV;have M4:=M3.go E hRw hk4 hn2;have hw3:=M3.lt;have M5:=M4.alloc (.cells #[.int .i64 x.f0,.string x.f1.f0,.string x.f1.f1,.string x.f2,.int .i64 x.f3,.slice A5 n5 c5] 31);have X5:=zA4 w4 (.cells #[.int .i64 x.f0,.string x.f1.f0,.string x.f1.f1,.string x.f2,.int .i64 x.f3,.slice A5 n5 c5] 31);have hv5:=hv.below ((kA3 _ w4).alloc (kA2 _) (.cells #[.int .i64 x.f0,.string x.f1.f0,.string x.f1.f1,.string x.f2,.int .i64 x.f3,.slice A5 n5 c5] 31));have hcl:=Hcl.out _ M5.st.rdr;go_wp2_with fail;refine hcl.mono ?_;rintro e w6 ⟨rfl,hk6⟩;have M6:=M5.go E hRw hk6 hltc;have X6:=hk6.blk X5 (kAs M4.st.rdr.lt);have hv6:=(hv5.grown hk6.grown (fun k hk=>by simp only[From] at hk;omega)).mono (S':=fun k=>w.heap.size<k) (fun k hk=>by simp only[From] at hk;omega);obtain⟨⟨s0,s1,s2,s3,s4,s5⟩,-,-⟩:=zA6 X6;obtain⟨⟨q0,q1,q2,q3,q4,q5⟩,⟨y0,y1,y2,y3,y4,y5⟩,xl2⟩:=zA6 M6.res;go_wp2;rw[Hr.out];refine kAi (zAg Tryz.results252 _ _ w.heap.size 31 _ (0,0) _ rfl (fin6 _ _ _ _ _ _ M6.res) Tryz.underlying31 rfl zB6) rfl (M6.done hRw hv6 kD4 _ _ _ _ _ _)
  | false =>
   have Hr:Hid (res=.error (atP ts en n)):=by
    show _=_;rw[← Hres.out];simp only[hcl,kBu,kCL]
   have htn:=fun n0 w' hr=>zCt R ts n en ⟨#[41]⟩ w' hr n0 hcl
   unfold zAm at htn;have Hcl:=kA1 htn;clear hcl htn;go_wp2_with fail;refine hx.mono ?_;rintro e w4 ⟨hn1,hn2,v,rfl,hv,hk4⟩;obtain⟨v5,A5,n5,c5,rfl,rfl,_,_⟩:=hv.cells;unfold exV;have M4:=M3.go E hRw hk4 hn2;have M5:=M4.alloc (.cells #[.int .i64 x.f0,.string x.f1.f0,.string x.f1.f1,.string x.f2,.int .i64 x.f3,.slice A5 n5 c5] 31);have hcl:=Hcl.out hn2 _ M5.st.rdr;go_wp2_with fail;refine hcl.mono ?_;rintro e w6 ⟨rfl,hb6⟩;go_wp2;rw[Hr.out];exact⟨rfl,rfl,kAk M5.took.grown hb6⟩
theorem atom_list (W0:World) (R B:Nat) (ts:List S47) (en now:Nat) (w:World) (E:Env W0 R B ts) (h:St W0 R B ts en now w) (h2:(tokP ts en now).f0≠2) (h0:(tokP ts en now).f0≠0) (hsk:sk ts en now ⟨#[40]⟩=false) (hs2:sk ts en now ⟨#[91]⟩=true) (r:Except Int (List S31×Nat)) (hlist:∀w',St W0 R B ts en (now+1) w'→Calls Tryz.prog 279 #[.pointer (some ⟨R,0,none⟩),.string ⟨#[93]⟩] w' (zDt w' R ts en (now+1) r)) :
  Calls Tryz.prog 252 #[.pointer (some ⟨R,0,none⟩)] w (zAk w R ts en now (match (generalizing:=false) r with | .error p=>.error p | .ok (xs,n)=>.ok (⟨8,z28,⟨#[]⟩,0,xs⟩,n))):=by
 have few:=E.few;have hRw:=h.rdr.lt;have M0:=Mid.start h;have hpk:=zB7 R ts now en (w.alloc zO) M0.st.rdr h.pos;unfold tokV at hpk;have hlt:=zAv hs2;have Hs:=kA1 (fun w' hr=>zAT R ts now en ⟨#[40]⟩ w' hr (kAP hlt) hsk);have Hs2:=kA1 (fun w' hr=>zBW R ts now en ⟨#[91]⟩ w' hr few hs2);have HL:=kA1 hlist;clear hsk hs2 hlist;have h0':((tokP ts en now).f0==0)=false:=by rw[kAd];exact h0
 have h2':((tokP ts en now).f0==2)=false:=by rw[kAd];exact h2
 have hnow:=h.pos;generalize tokP ts en now=t at *;clear h h0 h2;have hfd:=zBR t.f0 t.f2 t.f1;go_enter Tryz.func252,Tryz.ntmps252;go_wp2_with fail;refine hpk.mono ?_;rintro e w1 ⟨rfl,hb1⟩;have M1:=(M0.below hb1).alloc (tokO t);have T1:=zA4 w1 (tokO t);have hs:=Hs.out _ M1.st.rdr;go_wp2_with fail;refine hs.mono ?_;rintro e w3 ⟨rfl,hk3⟩;have M3:=M1.go E hRw hk3 hnow;have hs2:=Hs2.out _ M3.st.rdr;go_wp2_with fail;refine hs2.mono ?_;rintro e w4 ⟨rfl,hk4⟩;have M4:=M3.go E hRw hk4 hlt;have hl:=HL.out w4 M4.st
 cases r with
 | error p =>
  unfold zDt zAm at hl;go_wp2_with (go_at_call 279;refine hl.mono ?_;rintro e w6 ⟨rfl,hg⟩);exact⟨rfl,rfl,kA7 M4.took.grown hg⟩
 | ok r =>
  obtain⟨xs,n⟩:=r;unfold zDt at hl;have hw4:=M4.lt;go_wp2_with fail;refine hl.mono ?_;rintro e w6 ⟨hn1,hn2,v,rfl,hx,hk⟩;have M6:=M4.go E hRw hk hn2;obtain⟨ao,n5,c5,rfl⟩:∃ao n5 c5,v=.slice ao n5 c5:=by obtain⟨A,c,h⟩:=Kd.R_slice hx;exact⟨A,_,c,h⟩
  have hx7:Ex w6 (fun k=>w.heap.size<k) ⟨8,z28,⟨#[]⟩,0,xs⟩ (exV ⟨8,z28,⟨#[]⟩,0,xs⟩ (.slice ao n5 c5)) :=
   ⟨_,rfl,Kd.R_mono hx (fun k hk=>by simp only[From] at hk;omega)⟩
  obtain⟨⟨q0,q1,q2,q3,q4,q5⟩,⟨y0,y1,y2,y3,y4,y5⟩,xl2⟩:=zA6 M6.res;go_wp2;refine kAi (zAg Tryz.results252 _ _ w.heap.size 31 _ (0,0) _ rfl (fin6 _ _ _ _ _ _ M6.res) Tryz.underlying31 rfl zB6) rfl (M6.done hRw hx7 kD4 _ _ _ _ _ _)
theorem atom_no (W0:World) (R B:Nat) (ts:List S47) (en now:Nat) (w:World) (E:Env W0 R B ts) (h:St W0 R B ts en now w) (h2:(tokP ts en now).f0≠2) (h0:(tokP ts en now).f0≠0) (hsk:sk ts en now ⟨#[40]⟩=false) (hs2:sk ts en now ⟨#[91]⟩=false) :
  Calls Tryz.prog 252 #[.pointer (some ⟨R,0,none⟩)] w (zAk w R ts en now (.error (atP ts en now))):=by
 have few:=E.few;have hRw:=h.rdr.lt;have M0:=Mid.start h;have hpk:=zB7 R ts now en (w.alloc zO) M0.st.rdr h.pos;unfold tokV at hpk;have hnow':=h.pos;have Hs:=kA1 (fun w' hr=>zAT R ts now en ⟨#[40]⟩ w' hr hnow' hsk);have htn:=(fun w' hr=>zCt R ts now en ⟨#[91]⟩ w' hr hnow' hs2);unfold zAm at htn;have Hs2:=kA1 htn;generalize hat:atP ts en now=at_;have Hat:=kA1 hat;clear hsk hs2 htn hat;unfold atP at Hat;have h0':((tokP ts en now).f0==0)=false:=by rw[kAd];exact h0
 have h2':((tokP ts en now).f0==2)=false:=by rw[kAd];exact h2
 have hnow:=h.pos;generalize tokP ts en now=t at *;clear h h0 h2;have hfd:=zBR t.f0 t.f2 t.f1;go_enter Tryz.func252,Tryz.ntmps252;go_wp2_with fail;refine hpk.mono ?_;rintro e w1 ⟨rfl,hb1⟩;have M1:=(M0.below hb1).alloc (tokO t);have T1:=zA4 w1 (tokO t);have hs:=Hs.out _ M1.st.rdr;go_wp2_with fail;refine hs.mono ?_;rintro e w3 ⟨rfl,hk3⟩;have M3:=M1.go E hRw hk3 hnow;have hs2:=Hs2.out _ M3.st.rdr;go_wp2_with fail;refine hs2.mono ?_;rintro e w4 ⟨rfl,hb⟩;go_wp2;rw[← Hat.out];exact⟨rfl,rfl,kAk M3.took.grown hb⟩
theorem atom_walk (W0:World) (R B:Nat) (ts:List S47) (en:Nat) (chk:S28→Int) (ex:Nat→PR) (m:Nat) (E:Env W0 R B ts)
  (hlit:∀now w,m≤now→St W0 R B ts en now w→(tokP ts en now).f0=2→Calls Tryz.prog 278 #[.pointer (some ⟨R,0,none⟩)] w (zAk w R ts en now (litS ts en chk now)))
  (hex:Pars W0 R B ts en 134 ex (m+1)):Pars W0 R B ts en 252 (atomS ts en chk ex) m:=fun now w hm h=>by
 unfold atomS;by_cases h2:(tokP ts en now).f0=2
 ·rw[kAa h2];exact atom_lit W0 R B ts en now w E h h2 _ (fun w' h'=>hlit now w' hm h' h2)
 ·rw[kA9 h2];by_cases h0:(tokP ts en now).f0=0
  ·rw[kAa h0]
   cases hsk:sk ts en (now+1) ⟨#[40]⟩ with
   | false=>rw[kA9 kD7];exact atom_ref W0 R B ts en now w E h h0 hsk
   | true =>
    rw[kAa rfl]
    cases hs2:sk ts en (now+2) ⟨#[41]⟩ with
    | true=>rw[kAa rfl];exact atom_call0 W0 R B ts en now w E h h0 hsk hs2
    | false =>
     rw[kA9 kD7];exact atom_call W0 R B ts en now w E h h0 hsk hs2 _ (fun w' h'=>list_walk W0 R B ts en ex ⟨#[41]⟩ m (now+2) w' E h' kD4 hex)
  ·rw[kA9 h0]
   cases hsk:sk ts en now ⟨#[40]⟩ with
   | true=>rw[kAa rfl];exact atom_par W0 R B ts en now w E h h2 h0 hsk _ (fun w' h'=>hex (now+1) w' kD4 h')
   | false =>
    rw[kA9 kD7]
    cases hs2:sk ts en now ⟨#[91]⟩ with
    | true=>rw[kAa rfl];exact atom_list W0 R B ts en now w E h h2 h0 hsk hs2 _ (fun w' h'=>list_walk W0 R B ts en ex ⟨#[93]⟩ m (now+1) w' E h' kD4 hex)
    | false=>rw[kA9 kD7];exact atom_no W0 R B ts en now w E h h2 h0 hsk hs2
end Go.Proofs.YtjaobihcdkjmbaaGreatDoor
end
section
namespace Go.Proofs.YtjaobihcdkjmbaaGreatDoor
open Go.RowKit Go.Maps Go.Proofs.YtjaobihcdkjmbaaGreatDoorW.PrintWords Go.Proofs.YtjaobihcdkjmbaaGreatDoor.PReadTokens
theorem kindT4 {op:Int} (h:op≠10∧op≠11∧op≠12∧op≠13):zBz op=152∨zBz op=154∨zBz op=155∨zBz op=156:=by
 unfold zBz;rw[kA9 kD4];by_cases h1:op=3∨op=4∨op=5∨op=6
 ·rw[kAa h1];exact .inl rfl
 ·rw[kA9 h1];by_cases h2:op=2
  ·rw[kAa h2];exact .inr (.inl rfl)
  ·rw[kA9 h2];by_cases h3:op=7∨op=9
   ·rw[kAa h3];exact .inr (.inr (.inl rfl))
   ·rw[kA9 h3];exact .inr (.inr (.inr rfl))
theorem ta_other {t:TypeId} (h:t=152∨t=154∨t=155∨t=156) (v:Value) (w:World):(Instr.typeAssert (.iface t v) 147 150 true).run Tryz.prog w=.ok (.tuple #[zE,.bool false]) w:=by
 rcases h with rfl | rfl | rfl | rfl
 ·exact zDC v w
 ·exact ta154_150 v w
 ·exact zFC v w
 ·exact zDB v w
theorem binds_no (x:S31) (A:Option Addr) (n c:Nat) (h:x.f0≠10∧x.f0≠11∧x.f0≠12∧x.f0≠13) (w:World) :
  Calls Tryz.prog 109 #[exV x (.slice A n c)] w fun e w'=>e=.returned (.tuple #[.int .i64 0,.bool false])∧Below w.heap.size w w':=by
 have hk:=zDN x A n c;have hta:=fun v w=>ta_other (kindT4 h) v w
 obtain⟨f0,f1,f2,f3,xs⟩:=x;simp only at *;generalize zBz f0=kt at *;unfold exV at *;simp only at *;clear h;go_enter Tryz.func109,Tryz.ntmps109;go_wp2_with (go_at_call 96;refine (hk _).mono ?_;rintro e w1 ⟨rfl,hb1⟩);refine kAi (kD1 rfl _ _ _) rfl ⟨rfl,?_⟩;have h1:=((kA3 _ w).alloc (kA2 _) (.cells #[.int .i64 f0,.string f1.f0,.string f1.f1,.string f2,.int .i64 f3,.slice A n c] 31)).trans (hb1.mono kD6);exact h1.alloc h1.size _
theorem law9:Keyed Tryz.prog 9:=string_keyed Tryz.underlying9
abbrev MapAt (w:World) (b n:Nat) (D:DataW Unit):Prop:=w.ownsMap Tryz.prog 9 (plainElem Tryz.prog 4) b n D
theorem zE2 (bd bs nd ns:Nat) (Dd Ds:DataW Unit) (w:World) (hd:MapAt w bd nd Dd) (hs:MapAt w bs ns Ds) (hne:bd≠bs) (hroom:nd+Maps.size Ds≤maxLen) :
  Calls Tryz.prog 110 #[.map (some bd),.map (some bs)] w fun e w'=>e=.returned (.tuple #[])∧MapAt w' bd (nd+Maps.size Ds) (Lib.mergeD Dd Ds)∧w.grownBy w' (some bd) :=
 (AnyX.maps_Copy Tryz.copy110 law9 (plainElem Tryz.prog 4) bd bs nd ns Dd Ds w hd hs hne hroom).mono fun _ _ ⟨h1,h2,_,h4⟩=>⟨h1,h2,h4⟩
def ownD (x:S31):DataW Unit:=if x.f0=1 then (DataW.map []).put (.string x.f2.data.toList) (.lit (.bool true)) else .map []
def zEO (op:Int):Int:=if op=13 then 1 else 0
def zGf (op:Int):Bool:=decide (op=10)||decide (op=11)||decide (op=13)
theorem binds_calls (x:S31) (A:Option Addr) (n c:Nat) (w:World) :
  Calls Tryz.prog 109 #[exV x (.slice A n c)] w fun e w'=>e=.returned (.tuple #[.int .i64 (zEO x.f0),.bool (zGf x.f0)])∧Below w.heap.size w w':=by
 by_cases h:x.f0≠10∧x.f0≠11∧x.f0≠12∧x.f0≠13
 ·refine (binds_no x A n c h w).mono ?_;rintro e w' ⟨rfl,hb⟩;refine⟨?_,hb⟩;have e1:zEO x.f0=0:=by unfold zEO;rw[kA9 h.2.2.2]
  have e2:zGf x.f0=false:=by unfold zGf;simp[h.1,h.2.1,h.2.2.2]
  rw[e1,e2]
 ·have hk:=zDN x A n c;obtain⟨f0,f1,f2,f3,xs⟩:=x;simp only at *;have hta:=zDD;have h4:f0=10∨f0=11∨f0=12∨f0=13:=kD4
  clear h;unfold exV at *;simp only at *;have k10:zBz 10=150:=rfl;have k11:zBz 11=150:=rfl;have k12:zBz 12=150:=rfl;have k13:zBz 13=150:=rfl;rcases h4 with rfl | rfl | rfl | rfl
  all_goals
   go_enter Tryz.func109,Tryz.ntmps109;go_wp2_with (go_at_call 96;refine (hk _).mono ?_;rintro e w1 ⟨rfl,hb1⟩);have h1:=((kA3 _ w).alloc (kA2 _) (.cells #[.int .i64 _,.string f1.f0,.string f1.f1,.string f2,.int .i64 f3,.slice A n c] 31)).trans (hb1.mono kD6);refine kAi (kD1 rfl _ _ _) rfl ⟨rfl,?_⟩;exact h1.alloc h1.size _
def zCZ (op:Int) (i:Nat):Bool:=zGf op&&decide (zEO op≤(i:Int))
def ownDel (op:Int) (name:ByteArray) (i:Nat) (D:DataW Unit):DataW Unit:=if zCZ op i then D.del (.string name.data.toList) else D
mutual
/-- The names that an expression's map of free names holds. -/
def zEL:S31→DataW Unit
 | ⟨op,num,name,size,l⟩=>zCU op name 0 (ownD ⟨op,num,name,size,[]⟩) l
def zCU (op:Int) (name:ByteArray):Nat→DataW Unit→List S31→DataW Unit
 | _,D,[]=>D
 | i,D,x :: l=>zCU op name (i+1) (Lib.mergeD D (ownDel op name i (zEL x))) l
end
theorem freeG_eq (x:S31):zEL x=zCU x.f0 x.f2 0 (ownD x) x.f4:=by cases x;rfl
theorem mergeG_append (op:Int) (name:ByteArray) (l m:List S31):∀i D,zCU op name i D (l++m)=zCU op name (i+l.length) (zCU op name i D l) m:=by
 induction l with
 | nil=>intro i D;rfl
 | cons x l ih =>
  intro i D;have:=ih (i+1) (Lib.mergeD D (ownDel op name i (zEL x)));simp only[List.cons_append,zCU,List.length_cons];rw[this,show i+1+l.length=i+(l.length+1) by omega]
theorem mergeG_take (op:Int) (name:ByteArray) (D:DataW Unit) (l:List S31) (j:Nat) (h:j<l.length) :
  zCU op name 0 D (l.take (j+1))=Lib.mergeD (zCU op name 0 D (l.take j)) (ownDel op name j (zEL l[j])):=by
 rw[zCH l j h,mergeG_append,kAe,kAY (kAP h),kAv];rfl
mutual
/-- Names that are no great strings. -/
def smallB:S31→Bool
 | ⟨_,_,c,_,l⟩=>decide (c.size≤4611686018427387904)&&smallL l
def smallL:List S31→Bool
 | []=>true
 | x :: l=>smallB x&&smallL l
end
theorem smallB_eq (x:S31):smallB x=(decide (x.f2.size≤4611686018427387904)&&smallL x.f4):=by cases x;rfl
theorem smallL_mem {l:List S31} (h:smallL l=true) {x:S31} (hx:x∈l):smallB x=true:=by
 induction l with
 | nil=>simp at hx
 | cons y l ih =>
  simp only[smallL,kAo] at h;rcases kAO.1 hx with rfl | hx
  ·exact h.1
  ·exact ih h.2 hx
structure FreeGt (w:World) (op:Int) (name:ByteArray) (D:DataW Unit) (xs:List S31) (B j:Nat) (wr:World):Prop where
 map:MapAt wr B (1+zAy (xs.take j)) (zCU op name 0 D (xs.take j))
 below:Below w.heap.size w wr
theorem freeG_calls:∀(n:Nat) (x:S31),zAI x≤n→zAl x≤4611686018427387904→smallB x=true→∀(v:Value) (w:World),Vw w x v →
  Calls Tryz.prog 73 #[v] w fun e w'=>∃b,e=.returned (.map (some b))∧w.heap.size≤b∧MapAt w' b (zAl x) (zEL x)∧Below w.heap.size w w':=by
 intro n
 induction n with
 | zero=>intro x h;rw[zAw] at h;omega
 | succ n ih =>
  intro x hd hn hb v w hv;obtain⟨A,c,rfl,hc1,hc2⟩:=hv.out;rw[smallB_eq,kAo,kAU] at hb;obtain⟨hns,hb2⟩:=hb;rw[zAw] at hd;rw[zB3] at hn;have hrec:∀(j:Nat) (hj:j<x.f4.length) v w,Vw w x.f4[j] v→Calls Tryz.prog 73 #[v] w fun e w'=>∃b,e=.returned (.map (some b))∧w.heap.size≤b∧MapAt w' b (zAl x.f4[j]) (zEL x.f4[j])∧Below w.heap.size w w':=by
   intro j hj;have h1:=zBh (kAC hj);have h2:=zDh (kAC hj);exact ih _ kD4 kD4 (smallL_mem hb2 (kAC hj))
  have hbn:=fun w'=>binds_calls x A x.f4.length c w'
  have hkey:keyOf Tryz.prog 9 (.string x.f2)=some (.string x.f2.data.toList):=Go.WideMaps.keyOf_string_mk Tryz.underlying9 kDn;have hD:∃D,D=ownD x:=⟨_,rfl⟩;obtain⟨D,hD⟩:=hD;have hDe:=hD;unfold ownD at hDe;have hmt:=mergeG_take x.f0 x.f2 D x.f4;have hnt:=zFU x.f4;have hnl:=zEf x.f4;have hlen:=zCB x.f4;have htk:x.f4.take x.f4.length=x.f4:=kB6;have hfe:zEL x=zCU x.f0 x.f2 0 D x.f4:=by rw[freeG_eq,← hD]
  rw[hfe,zB3];have hmm:=@run_makeMap Tryz.prog;obtain⟨f0,f1,f2,f3,xs⟩:=x;simp only at *;clear ih hv hb2 hfe hD hns;unfold exV at *;simp only at *;have HR:=kA1 hrec;have HN:=kA1 hnt;have HM:=kA1 hmt;have HNL:=kA1 hnl;have HT:=kA1 htk;have HC:=kA1 hc2;obtain⟨bf,hbf⟩:∃k,k=zEO f0:=⟨_,rfl⟩;obtain⟨bY,hbY⟩:∃k,k=zGf f0:=⟨_,rfl⟩;rw[← hbf,← hbY] at hbn;have hba:∀i:Nat,zCZ f0 i=(bY&&decide (bf≤(i:Int))):=fun i=>by rw[hbf,hbY];rfl
  have HBA:=kA1 hba;have HB:=kA1 hbn;have HK:=kA1 hkey;clear hrec hnt hmt hnl htk hc2 hbn hkey hbf hbY hba;by_cases hop:f0=1
  ·rw[kAa hop] at hDe;have HD:=kA1 hDe;clear hDe;have hop':(f0==1)=true:=by rw[hop];rfl
   clear hop;go_enter Tryz.func73,Tryz.ntmps73;go_wp2_with (first
    | (at_mapUpdate;refine wpList_mapUpdate_own _ rfl _ _ _ 116 rfl 9 4 law9 Tryz.underlying116 (plainElem Tryz.prog 4) (w.heap.size+1) 0 (.map []) rfl (by have:=World.ownsMap_made (H:=Unit) (w.alloc (.cells #[.int .i64 f0,.string f1.f0,.string f1.f1,.string f2,.int .i64 f3,.slice A xs.length c] 31)) Tryz.prog 9 (plainElem Tryz.prog 4);rwa [kAw] at this) kDn _ _ _ rfl rfl HK.out _ [] (plainElem_bool Tryz.underlying4 true) ?_))
   intro w1 hown1 hgrow1;rw[← HD.out] at hown1;have hbx:=(hgrow1.block w.heap.size kD8 kDa).trans ((kA4 _ _ _ kD6).trans (zA4 w (.cells #[.int .i64 f0,.string f1.f0,.string f1.f1,.string f2,.int .i64 f3,.slice A xs.length c] 31)));have hbe:Below w.heap.size w w1:=(((kA3 _ w).alloc (kA2 _) (.cells #[.int .i64 f0,.string f1.f0,.string f1.f1,.string f2,.int .i64 f3,.slice A xs.length c] 31)).alloc kD6 (.map #[] 0)).grown hgrow1 kD8 (fun k e=>by injection e with e;omega);clear hgrow1 hop';have BX:=kA1 hbx;have hb1:=kA1 hbe;obtain⟨⟨q0,q1,q2,q3,q4,q5⟩,_,xl⟩:=zA6 hbx;clear hbx hbe;go_wp2_with fail;refine (HB.out _).mono ?_;rintro e w2 ⟨rfl,hb2⟩;have hx2:=zAa hb2 BX.out;obtain⟨⟨p0,p1,p2,p3,p4,p5⟩,_,xl2⟩:=zA6 hx2;have HX2:=kA1 hx2;have hat:FreeGt w f0 f2 D xs (w.heap.size+1) 0 w2:=⟨by simpa[zAy,zCU] using hown1.kept (row:=none) ⟨hb2.os,hb2.tape,hb2.output,hb2.size,fun k hk _=>hb2.block k hk⟩ kD6,hb1.out.trans (hb2.mono hb1.out.size)⟩;clear hx2 hown1 q0 q1 q2 q3 q4 q5 xl;go_wp2;go_loopg [24] xs.length (fun k i wr=>∃j:Nat,j+k=xs.length∧i=.int .i64 j∧FreeGt w f0 f2 D xs (w.heap.size+1) j wr∧Hid (wr.heap[w.heap.size]?=some (.cells #[.int .i64 f0,.string f1.f0,.string f1.f1,.string f2,.int .i64 f3,.slice A xs.length c] 31 (0,0))))
   case atStart=>exact⟨0,kD4,rfl,hat,HX2⟩
   case round =>
    clear hat HX2 p0 p1 p2 p3 p4 p5 xl2;obtain⟨j,hj,rfl,hat,HX⟩:=hrel;by_cases hjl:j<xs.length
    ·obtain⟨ad,A5,c5,rfl,q0,q1,q2,q3,q4,q5,hvw⟩:=zAh (Kd.C_below HC.out hat.below) j hjl;have hr:=HR.out j hjl;have hn1:=HN.out j hjl;have hm1:=HM.out j hjl;have hn2:=HNL.out (j+1);generalize xs[j]=y at *;have Hvw:=kA1 hvw;clear hvw;go_wp2_with fail;refine (hr _ _ (Hvw.out.below ((kA3 _ _).alloc (kA2 _) _))).mono ?_;rintro e w3 ⟨b,rfl,hbge,hmap3,hb3⟩;have hbl:Below wr.heap.size wr w3:=((kA3 _ _).alloc (kA2 _) _).trans (hb3.mono kD6);have hB3:MapAt w3 (w.heap.size+1) (1+zAy (xs.take j)) (zCU f0 f2 0 D (xs.take j)):=hat.map.kept (row:=none) ⟨hbl.os,hbl.tape,hbl.output,hbl.size,fun k hk _=>hbl.block k hk⟩ kD6;have hBlt:=hat.map.lt;simp only[kAw] at hbge;have hsz:=hmap3.size_le;have hw3:=hat.below.trans (hbl.mono hat.below.size);have HW:=kA1 hw3;have hx3:=zAa hbl HX.out;have HX3:=kA1 hx3;clear hr hat hbl hb3;have hbat:=HBA.out j;unfold ownDel at hm1;rw[hbat] at hm1;clear hbat
     cases hins:(bY&&decide (bf≤(j:Int)))
     ·rw[hins,kA9 kD6] at hm1;have hcp:=zE2 (w.heap.size+1) b _ _ _ _ w3 hB3 hmap3 kD4 kDn;have hsplit:bY=false∨(bY=true∧decide (bf≤(j:Int))=false):=by
       cases bY
       ·exact .inl rfl
       ·exact .inr ⟨rfl,by simpa using hins⟩
      clear hmap3 hB3 hins hx3;rcases hsplit with rfl | ⟨rfl,hdf⟩
      all_goals
       go_wp2_with fail;refine hcp.mono ?_;rintro e w4 ⟨rfl,hm4,hg4⟩;have hat4:FreeGt w f0 f2 D xs (w.heap.size+1) (j+1) w4:=by
        refine⟨?_,HW.out.grown hg4 HW.out.size (fun k e=>by injection e with e;omega)⟩;rw[hm1,hn1];exact hm4.mono kD4
       have HX4:=kA1 ((hg4.block _ (zA5 HX3.out) kDa).trans HX3.out);clear hm4 hg4 hcp hw3;go_wp2;go_roundg (gk-1)
       case measure=>omega
       case rel=>exact⟨j+1,zCL hj hjl,by go_num,hat4,HX4⟩
     ·rw[hins,kAa rfl] at hm1;obtain⟨rfl,hdf⟩:bY=true∧decide (bf≤(j:Int))=true:=by simpa[kAo] using hins
      obtain⟨⟨g0,g1,g2,g3,g4,g5⟩,_,gl⟩:=zA6 hx3;have HB3:=kA1 hB3;have HM3:=kA1 hmap3;clear hins hx3 hmap3 hB3;go_wp2_with (at_delete;refine wpList_delete_own _ rfl _ _ 116 9 rfl 4 law9 Tryz.underlying116 (plainElem Tryz.prog 4) b _ _ rfl HM3.out _ _ rfl HK.out ?_;intro w5 hown5 hturn5);have hg5:=hturn5.grown;have hB5:=HB3.out.kept hg5 kDa;have hx5:=(hg5.block _ (zA5 HX3.out) kDa).trans HX3.out;have HX5:=kA1 hx5;have hw5:=HW.out.grown hg5 HW.out.size (fun k e=>by injection e with e;omega);have hs5:=hown5.size_le;have HW5:=kA1 hw5;have hcp:=zE2 (w.heap.size+1) b _ _ _ _ w5 hB5 hown5 kD4 kDn;clear hown5 hturn5 hg5 hB5 hx5 hw5 g0 g1 g2 g3 g4 g5;go_wp2_with fail;refine hcp.mono ?_;rintro e w4 ⟨rfl,hm4,hg4⟩;have hat4:FreeGt w f0 f2 D xs (w.heap.size+1) (j+1) w4:=by
       refine⟨?_,HW5.out.grown hg4 HW5.out.size (fun k e=>by injection e with e;omega)⟩;rw[hm1,hn1];exact hm4.mono kD4
      have HX4:=kA1 ((hg4.block _ (zA5 HX5.out) kDa).trans HX5.out);clear hm4 hg4 hcp hw3;go_wp2;go_roundg (gk-1)
      case measure=>omega
      case rel=>exact⟨j+1,zCL hj hjl,by go_num,hat4,HX4⟩
    ·obtain rfl:j=xs.length:=kD4
     go_wp2;go_ret;have h1:=hat.map;rw[HT.out] at h1;exact⟨_,rfl,kD4,h1.mono kD4,hat.below⟩
  ·rw[kA9 hop] at hDe;have HD:=kA1 hDe;have hop':=zAF hop;have hown0:MapAt ((w.alloc (.cells #[.int .i64 f0,.string f1.f0,.string f1.f1,.string f2,.int .i64 f3,.slice A xs.length c] 31)).alloc (.map #[] 0)) (w.heap.size+1) 0 (.map []):=by have:=World.ownsMap_made (H:=Unit) (w.alloc (.cells #[.int .i64 f0,.string f1.f0,.string f1.f1,.string f2,.int .i64 f3,.slice A xs.length c] 31)) Tryz.prog 9 (plainElem Tryz.prog 4);rwa [kAw] at this
   rw[← HD.out] at hown0;have hown1:=hown0.mono (n':=1) kD4;have hbx:((w.alloc (.cells #[.int .i64 f0,.string f1.f0,.string f1.f1,.string f2,.int .i64 f3,.slice A xs.length c] 31)).alloc (.map #[] 0)).heap[w.heap.size]?=_:=(kA4 _ _ _ kD6).trans (zA4 w (.cells #[.int .i64 f0,.string f1.f0,.string f1.f1,.string f2,.int .i64 f3,.slice A xs.length c] 31));have hbe:Below w.heap.size w ((w.alloc (.cells #[.int .i64 f0,.string f1.f0,.string f1.f1,.string f2,.int .i64 f3,.slice A xs.length c] 31)).alloc (.map #[] 0)):=((kA3 _ w).alloc (kA2 _) _).alloc kD6 _;clear hDe hop hown0;go_enter Tryz.func73,Tryz.ntmps73;go_wp2_with fail;generalize hw1:(w.alloc (.cells #[.int .i64 f0,.string f1.f0,.string f1.f1,.string f2,.int .i64 f3,.slice A xs.length c] 31)).alloc (.map #[] 0)=w1 at *;clear hw1 hop';have BX:=kA1 hbx;have hb1:=kA1 hbe;obtain⟨⟨q0,q1,q2,q3,q4,q5⟩,_,xl⟩:=zA6 hbx;clear hbx hbe;go_wp2_with fail;refine (HB.out _).mono ?_;rintro e w2 ⟨rfl,hb2⟩;have hx2:=zAa hb2 BX.out;obtain⟨⟨p0,p1,p2,p3,p4,p5⟩,_,xl2⟩:=zA6 hx2;have HX2:=kA1 hx2;have hat:FreeGt w f0 f2 D xs (w.heap.size+1) 0 w2:=⟨by simpa[zAy,zCU] using hown1.kept (row:=none) ⟨hb2.os,hb2.tape,hb2.output,hb2.size,fun k hk _=>hb2.block k hk⟩ kD6,hb1.out.trans (hb2.mono hb1.out.size)⟩;clear hx2 hown1 q0 q1 q2 q3 q4 q5 xl;go_wp2;go_loopg [24] xs.length (fun k i wr=>∃j:Nat,j+k=xs.length∧i=.int .i64 j∧FreeGt w f0 f2 D xs (w.heap.size+1) j wr∧Hid (wr.heap[w.heap.size]?=some (.cells #[.int .i64 f0,.string f1.f0,.string f1.f1,.string f2,.int .i64 f3,.slice A xs.length c] 31 (0,0))))
   case atStart=>exact⟨0,kD4,rfl,hat,HX2⟩
   case round =>
    clear hat HX2 p0 p1 p2 p3 p4 p5 xl2;obtain⟨j,hj,rfl,hat,HX⟩:=hrel;by_cases hjl:j<xs.length
    ·obtain⟨ad,A5,c5,rfl,q0,q1,q2,q3,q4,q5,hvw⟩:=zAh (Kd.C_below HC.out hat.below) j hjl;have hr:=HR.out j hjl;have hn1:=HN.out j hjl;have hm1:=HM.out j hjl;have hn2:=HNL.out (j+1);generalize xs[j]=y at *;have Hvw:=kA1 hvw;clear hvw;go_wp2_with fail;refine (hr _ _ (Hvw.out.below ((kA3 _ _).alloc (kA2 _) _))).mono ?_;rintro e w3 ⟨b,rfl,hbge,hmap3,hb3⟩;have hbl:Below wr.heap.size wr w3:=((kA3 _ _).alloc (kA2 _) _).trans (hb3.mono kD6);have hB3:MapAt w3 (w.heap.size+1) (1+zAy (xs.take j)) (zCU f0 f2 0 D (xs.take j)):=hat.map.kept (row:=none) ⟨hbl.os,hbl.tape,hbl.output,hbl.size,fun k hk _=>hbl.block k hk⟩ kD6;have hBlt:=hat.map.lt;simp only[kAw] at hbge;have hsz:=hmap3.size_le;have hw3:=hat.below.trans (hbl.mono hat.below.size);have HW:=kA1 hw3;have hx3:=zAa hbl HX.out;have HX3:=kA1 hx3;clear hr hat hbl hb3;have hbat:=HBA.out j;unfold ownDel at hm1;rw[hbat] at hm1;clear hbat
     cases hins:(bY&&decide (bf≤(j:Int)))
     ·rw[hins,kA9 kD6] at hm1;have hcp:=zE2 (w.heap.size+1) b _ _ _ _ w3 hB3 hmap3 kD4 kDn;have hsplit:bY=false∨(bY=true∧decide (bf≤(j:Int))=false):=by
       cases bY
       ·exact .inl rfl
       ·exact .inr ⟨rfl,by simpa using hins⟩
      clear hmap3 hB3 hins hx3;rcases hsplit with rfl | ⟨rfl,hdf⟩
      all_goals
       go_wp2_with fail;refine hcp.mono ?_;rintro e w4 ⟨rfl,hm4,hg4⟩;have hat4:FreeGt w f0 f2 D xs (w.heap.size+1) (j+1) w4:=by
        refine⟨?_,HW.out.grown hg4 HW.out.size (fun k e=>by injection e with e;omega)⟩;rw[hm1,hn1];exact hm4.mono kD4
       have HX4:=kA1 ((hg4.block _ (zA5 HX3.out) kDa).trans HX3.out);clear hm4 hg4 hcp hw3;go_wp2;go_roundg (gk-1)
       case measure=>omega
       case rel=>exact⟨j+1,zCL hj hjl,by go_num,hat4,HX4⟩
     ·rw[hins,kAa rfl] at hm1;obtain⟨rfl,hdf⟩:bY=true∧decide (bf≤(j:Int))=true:=by simpa[kAo] using hins
      obtain⟨⟨g0,g1,g2,g3,g4,g5⟩,_,gl⟩:=zA6 hx3;have HB3:=kA1 hB3;have HM3:=kA1 hmap3;clear hins hx3 hmap3 hB3;go_wp2_with (at_delete;refine wpList_delete_own _ rfl _ _ 116 9 rfl 4 law9 Tryz.underlying116 (plainElem Tryz.prog 4) b _ _ rfl HM3.out _ _ rfl HK.out ?_;intro w5 hown5 hturn5);have hg5:=hturn5.grown;have hB5:=HB3.out.kept hg5 kDa;have hx5:=(hg5.block _ (zA5 HX3.out) kDa).trans HX3.out;have HX5:=kA1 hx5;have hw5:=HW.out.grown hg5 HW.out.size (fun k e=>by injection e with e;omega);have hs5:=hown5.size_le;have HW5:=kA1 hw5;have hcp:=zE2 (w.heap.size+1) b _ _ _ _ w5 hB5 hown5 kD4 kDn;clear hown5 hturn5 hg5 hB5 hx5 hw5 g0 g1 g2 g3 g4 g5;go_wp2_with fail;refine hcp.mono ?_;rintro e w4 ⟨rfl,hm4,hg4⟩;have hat4:FreeGt w f0 f2 D xs (w.heap.size+1) (j+1) w4:=by
       refine⟨?_,HW5.out.grown hg4 HW5.out.size (fun k e=>by injection e with e;omega)⟩;rw[hm1,hn1];exact hm4.mono kD4
      have HX4:=kA1 ((hg4.block _ (zA5 HX5.out) kDa).trans HX5.out);clear hm4 hg4 hcp hw3;go_wp2;go_roundg (gk-1)
      case measure=>omega
      case rel=>exact⟨j+1,zCL hj hjl,by go_num,hat4,HX4⟩
    ·obtain rfl:j=xs.length:=kD4
     go_wp2;go_ret;have h1:=hat.map;rw[HT.out] at h1;exact⟨_,rfl,kD4,h1.mono kD4,hat.below⟩
end Go.Proofs.YtjaobihcdkjmbaaGreatDoor
end
section
namespace Go.Proofs.YtjaobihcdkjmbaaGreatDoor
open Go.RowKit Go.Proofs.YtjaobihcdkjmbaaGreatDoorW.PrintWords Go.Proofs.YtjaobihcdkjmbaaGreatDoor.PReadTokens
structure Sz (x:S31):Prop where
 num:x.f1.f0.size≤4611686018427387904
 den:x.f1.f1.size≤4611686018427387904
 name:x.f2.size≤4611686018427387904
theorem chkR_pos {r:S28} (h:chkR r=0):0<r.f0.size:=by
 unfold chkR at h;by_cases h1:zC0 r.f0=1∨zC0 r.f1=1∨negB r.f1=true∨r.f1=⟨#[48]⟩
 ·rw[kAa h1] at h;cases h
 ·exact zFv (zFz (fun h2=>h1 (.inl h2)))
theorem look_calls (x:S31) (hsz:Sz x) (v:Value) (w:World) (hv:Vw w x v) (hS:Start w):Calls Tryz.prog 102 #[v] w (zE9 (zEH x) w):=by
 obtain⟨A,c,rfl,_,_⟩:=hv.out;have k1:=hsz.num;have k2:=hsz.den;have k3:=hsz.name;unfold zEH;by_cases h1:x.f0<0∨14<x.f0
 ·rw[kAa h1];exact look_out x _ w A c rfl h1
 rw[kA9 h1];by_cases h2:(x.f4.length:Int)<zBb x.f0
 ·rw[kAa h2];have:=look_args x _ w A c rfl kD4 kD4 (.inl h2)
  rwa [kAa h2] at this
 rw[kA9 h2];by_cases h3:zBd x.f0<(x.f4.length:Int)
 ·rw[kAa h3];have:=look_args x _ w A c rfl kD4 kD4 (.inr h3)
  rwa [kA9 h2] at this
 rw[kA9 h3];unfold midE;by_cases h4:x.f0=0
 ·rw[kAa h4];by_cases h5:chkR x.f1≠0
  ·rw[kAa h5];exact look_lit_chk x _ w A c rfl kD4 kD4 kD4 kD4 h4 hS kD4 kD4 _ rfl h5
  rw[kA9 h5];have h5':chkR x.f1=0:=kD4
  have hp:=chkR_pos h5';have hh:=neg_head hp;by_cases h6:negB x.f1.f0=true
  ·rw[kAa h6];exact look_lit_neg x _ w A c rfl kD4 kD4 kD4 kD4 h4 hS kD4 kD4 h5' hp (by rw[hh,h6])
  rw[kA9 h6];have h6':negB x.f1.f0=false:=by simpa using h6
  rw[h6'] at hh;unfold tailE zGg;rw[kAa h4];by_cases h7:x.f2=⟨#[]⟩
  ·rw[kA9 kDI];exact look_lit_plain x _ w A c rfl kD4 kD4 kD4 kD4 h4 hS kD4 kD4 h5' hp hh h7 _ (kA1 rfl)
  ·cases h8:zCe x.f2
   ·rw[kAa kDI];exact look_lit_bad x _ w A c rfl kD4 kD4 kD4 kD4 h4 hS kD4 kD4 h5' hp hh kD4 h7 h8
   ·rw[kA9 kD6];exact look_lit_unit x _ w A c rfl kD4 kD4 kD4 kD4 h4 hS kD4 kD4 h5' hp hh kD4 h7 h8 _ (kA1 rfl)
 rw[kA9 h4];by_cases h5:x.f1≠z28
 ·rw[kAa h5];exact look_other_num x _ w A c rfl kD4 kD4 kD4 kD4 h4 h5
 rw[kA9 h5];have h5':x.f1=z28:=by simpa using h5
 unfold tailE zGg;rw[kA9 h4];by_cases h6:x.f0=1∨x.f0=10∨x.f0=11∨x.f0=13∨x.f0=14
 ·rw[kAa h6]
  cases h7:zBQ x.f2
  ·rw[kAa kD6];exact look_named_bad x _ w A c rfl kD4 kD4 kD4 kD4 h6 h5' kD4 h7
  ·rw[kA9 kD6];exact zFZ x _ w A c rfl kD4 kD4 kD4 kD4 h6 h5' kD4 h7 _ (kA1 rfl)
 ·rw[kA9 h6];by_cases h7:x.f2=⟨#[]⟩
  ·rw[kA9 kDI];exact zFY x _ w A c rfl kD4 kD4 kD4 kD4 ⟨h4,kD4,kD4,kD4,kD4,kD4⟩ h5' h7 _ (kA1 rfl)
  ·rw[kAa kDI];exact look_other_bad x _ w A c rfl kD4 kD4 kD4 kD4 ⟨h4,kD4,kD4,kD4,kD4,kD4⟩ h5' h7
structure Rod (w:World) (R N:Nat):Prop where
 out:∃A l c at_ st,w.heap[R]?=some (.cells #[.slice A (l:Nat) c,.int .i64 at_,.int .u64 st] 77 (0,0))∧0≤at_∧at_≤N∧l≤9223372036854775807 ∧
  (∀i,i<l→∃ad x,A=some ad∧w.cell? (ad.add i)=some (.int .i64 x)∧ad.block<R)
theorem zCO (a:Addr) (n:Nat):(a.add n).block=a.block:=by unfold Addr.add;split<;>rfl
theorem xor_pos (x y:Int):0≤Go.bits .xor .u64 x y:=wrap_u64_nonneg _
theorem turn_calls (R N:Nat) (w:World) (hR:Rod w R N) (hN:N≤1000000) :
  Calls Tryz.prog 59 #[.pointer (some ⟨R,0,none⟩)] w fun e w'=>(∃x,e=.returned (.int .u64 x)∧0≤x)∧Rod w' R (N+1)∧w.grownBy w' (some R):=by
 obtain⟨A,l,c,at_,st,h0,h1,h2,hl,h3⟩:=hR.out;have a0:=zA1 h0 0;have a1:=zA1 h0 1;have a2:=zA1 h0 2;have f1:=zA2 h0 1;have f2:=zA2 h0 2;have hw1:IntKind.i64.wrap (at_+1)=at_+1:=by simp[IntKind.wrap,IntKind.bits,IntKind.signed];omega
 go_enter Tryz.func59,Tryz.ntmps59;go_wp2_with fail;have K:w.drew.cell? ⟨R,0,none⟩=some (.slice A l c)∧w.drew.cell? ⟨R,1,none⟩=some (.int .i64 at_):=⟨a0,a1⟩
 go_region_held3 (fun w':World=>w'.cell? ⟨R,0,none⟩=some (.slice A l c)∧w'.cell? ⟨R,1,none⟩=some (.int .i64 at_)) (first | with_reducible exact K) (fail)
 by_cases hlt:at_<l
 ·obtain⟨ad,x,hA,hx,_⟩:=h3 at_.toNat kD4;have hx:w.drew.cell? (ad.add at_.toNat)=some (.int .i64 x):=hx;subst hA;have q1:(0≤at_)=True:=kAX h1;have q2:(at_<(l:Int))=True:=kAX hlt;have q3:decide (at_<(l:Int))=true:=kA8 hlt;rw[q3];go_wp2_with fail;have K:w.drew.drew.cell? ⟨R,0,none⟩=some (.slice (some ad) l c)∧w.drew.drew.cell? ⟨R,1,none⟩=some (.int .i64 at_)∧w.drew.drew.cell? (ad.add at_.toNat)=some (.int .i64 x):=⟨a0,a1,hx⟩;clear hx
  go_region_held3 (fun w':World=>w'.cell? ⟨R,0,none⟩=some (.slice (some ad) l c)∧w'.cell? ⟨R,1,none⟩=some (.int .i64 at_)∧w'.cell? (ad.add at_.toNat)=some (.int .i64 x)) (first | with_reducible exact K) (fail)
  generalize IntKind.u64.wrap (IntKind.u64.wrap ((at_+1)*13503953896175478587)+IntKind.u64.wrap (IntKind.u64.wrap x*4354685564936845355))=v3;go_wp2_with fail;generalize IntKind.u64.wrap (bits BinOp.xor IntKind.u64 st v3*11912009170470909681)=st2;have j0:((((w.setCell ⟨R,1,none⟩ (.int .i64 (at_+1))).setCell ⟨R,2,none⟩ (.int .u64 st2)).drew.drew)).heap[R]?=some (.cells #[.slice (some ad) l c,.int .i64 (at_+1),.int .u64 st2] 77 (0,0)):=zA8 (zA8 h0 1 (.int .i64 (at_+1))) 2 (.int .u64 st2);have g0:w.grownBy ((((w.setCell ⟨R,1,none⟩ (.int .i64 (at_+1))).setCell ⟨R,2,none⟩ (.int .u64 st2)).drew.drew)) (some R):=zBu (n:=1) (zBu (n:=1) (kA7 (kAf _ _ _ _) (kAf _ _ _ _)) );generalize (((w.setCell ⟨R,1,none⟩ (.int .i64 (at_+1))).setCell ⟨R,2,none⟩ (.int .u64 st2)).drew.drew)=W at *;have c2:W.cell? ⟨R,2,none⟩=some (.int .u64 st2):=zA1 j0 2;have e2:W.frozen? ⟨R,2,none⟩=false:=zA2 j0 2;have c2':W.drew.cell? ⟨R,2,none⟩=some (.int .u64 st2):=zA1 j0 2;have e2':W.drew.frozen? ⟨R,2,none⟩=false:=zA2 j0 2;have j0:W.drew.heap[R]?=some (.cells #[.slice (some ad) l c,.int .i64 (at_+1),.int .u64 st2] 77 (0,0)):=j0;clear K;go_still_tail 13,kD5;go_wp2_with fail;go_ret;have g1:w.grownBy ((W.setCell ⟨R,2,none⟩ (.int .u64 (bits BinOp.xor IntKind.u64 st2 (st2 / 2147483648)))).drew) (some R):=zBu (n:=1) (Lib.grownBy_setB g0 2 _);refine⟨⟨_,rfl,kBV (xor_pos _ _) kD7⟩,⟨_,l,c,at_+1,_,zA8 j0 2 _,kD4,kD4,hl,?_⟩,g1⟩;intro i hi;obtain⟨ad,x,e1,e2,e3⟩:=h3 i hi;exact⟨ad,x,e1,cell_grown g1 e2 (by rw[zCO];exact kB8 e3),e3⟩
 ·have q3:decide (at_<(l:Int))=false:=kAc hlt;rw[q3];generalize IntKind.u64.wrap ((at_+1)*13503953896175478587)=v3;go_wp2_with fail;generalize IntKind.u64.wrap (bits BinOp.xor IntKind.u64 st v3*11912009170470909681)=st2;have j0:((((w.setCell ⟨R,1,none⟩ (.int .i64 (at_+1))).setCell ⟨R,2,none⟩ (.int .u64 st2)).drew)).heap[R]?=some (.cells #[.slice A l c,.int .i64 (at_+1),.int .u64 st2] 77 (0,0)):=zA8 (zA8 h0 1 (.int .i64 (at_+1))) 2 (.int .u64 st2);have g0:w.grownBy ((((w.setCell ⟨R,1,none⟩ (.int .i64 (at_+1))).setCell ⟨R,2,none⟩ (.int .u64 st2)).drew)) (some R):=zBu (n:=1) (kA7 (kAf _ _ _ _) (kAf _ _ _ _));generalize (((w.setCell ⟨R,1,none⟩ (.int .i64 (at_+1))).setCell ⟨R,2,none⟩ (.int .u64 st2)).drew)=W at *;have c2:W.cell? ⟨R,2,none⟩=some (.int .u64 st2):=zA1 j0 2;have e2:W.frozen? ⟨R,2,none⟩=false:=zA2 j0 2;have c2':W.drew.cell? ⟨R,2,none⟩=some (.int .u64 st2):=zA1 j0 2;have e2':W.drew.frozen? ⟨R,2,none⟩=false:=zA2 j0 2;have j0:W.drew.heap[R]?=some (.cells #[.slice A l c,.int .i64 (at_+1),.int .u64 st2] 77 (0,0)):=j0;clear K;go_still_tail 13,kD5;go_wp2_with fail;go_ret;have g1:w.grownBy ((W.setCell ⟨R,2,none⟩ (.int .u64 (bits BinOp.xor IntKind.u64 st2 (st2 / 2147483648)))).drew) (some R):=zBu (n:=1) (Lib.grownBy_setB g0 2 _);refine⟨⟨_,rfl,kBV (xor_pos _ _) kD7⟩,⟨_,l,c,at_+1,_,zA8 j0 2 _,kD4,kD4,hl,?_⟩,g1⟩;intro i hi;obtain⟨ad,x,e1,e2,e3⟩:=h3 i hi;exact⟨ad,x,e1,cell_grown g1 e2 (by rw[zCO];exact kB8 e3),e3⟩
theorem zDr (R N:Nat) (n:Int) (w:World) (hR:Rod w R N) (hN:N≤1000000) (hn:n≤1000000) (hn0:0≤n) :
  Calls Tryz.prog 22 #[.pointer (some ⟨R,0,none⟩),.int .i64 n] w fun e w'=>(∃x,e=.returned (.int .i64 x)∧0≤x∧x≤n)∧Rod w' R (N+1)∧w.grownBy w' (some R):=by
 have ht:=turn_calls R N w hR hN;go_enter Tryz.func22,Tryz.ntmps22;go_wp2_with fail;refine ht.mono ?_;rintro e w1 ⟨⟨x,rfl,hx⟩,hr,hg⟩;clear ht;by_cases h1:n<1
 ·have hd:decide (n<1)=true:=kA8 h1;go_wp2;go_ret;exact⟨⟨0,rfl,kD4,kD4⟩,hr,hg⟩
 ·have hd:decide (n<1)=false:=kAc h1;have hn1:(n=0)=False:=kD8
  go_wp2_with fail;have h3:0≤x % (n+1):=kBM _ kD4;have h4:x % (n+1)<n+1:=kBD _ kD4;have e:wrap64 (x % (n+1))=x % (n+1):=by generalize x % (n+1)=y at *;unfold wrap64;omega
  rw[e];go_ret;exact⟨⟨_,rfl,h3,kD4⟩,hr,hg⟩
theorem zFd (R N:Nat) (n:Int) (w:World) (hR:Rod w R N) (hN:N≤1000000) (hn:n≤1000000) (hn0:1≤n) :
  Calls Tryz.prog 47 #[.pointer (some ⟨R,0,none⟩),.int .i64 n] w fun e w'=>(∃x,e=.returned (.bool x))∧Rod w' R (N+1)∧w.grownBy w' (some R):=by
 have ht:=zDr R N (n-1) w hR hN kD4 kD4;have hw:IntKind.i64.wrap (n-1)=n-1:=by simp[IntKind.wrap,IntKind.bits,IntKind.signed];omega
 go_enter Tryz.func47,Tryz.ntmps47;go_wp2_with fail;refine ht.mono ?_;rintro e w1 ⟨⟨x,rfl,hx⟩,hr,hg⟩;clear ht;go_wp2;go_ret;exact⟨⟨_,rfl⟩,hr,hg⟩
theorem zCP (R N:Nat) (lo hi:Int) (w:World) (hR:Rod w R N) (hN:N≤1000000) (h1:-1000≤lo) (h2:lo≤hi) (h3:hi≤1000) :
  Calls Tryz.prog 51 #[.pointer (some ⟨R,0,none⟩),.int .i64 lo,.int .i64 hi] w fun e w'=>(∃x,e=.returned (.int .i64 x)∧lo≤x∧x≤hi)∧Rod w' R (N+1)∧w.grownBy w' (some R):=by
 have ht:=zDr R N (hi-lo) w hR hN kD4 kD4;have hw:IntKind.i64.wrap (hi-lo)=hi-lo:=by simp[IntKind.wrap,IntKind.bits,IntKind.signed];omega
 go_enter Tryz.func51,Tryz.ntmps51;go_wp2_with fail;refine ht.mono ?_;rintro e w1 ⟨⟨x,rfl,hx⟩,hr,hg⟩;clear ht;have hw2:IntKind.i64.wrap (lo+x)=lo+x:=by simp[IntKind.wrap,IntKind.bits,IntKind.signed];omega
 go_wp2;go_ret;exact⟨⟨_,rfl,kD4,kD4⟩,hr,hg⟩
structure Nums (w:World) (R:Nat) (A:Addr) (l:List Int):Prop where
 cells:∀i (h:i<l.length),w.cell? (A.add i)=some (.int .i64 l[i])
 ne:A.block≠R
theorem zDl (R N:Nat) (A:Addr) (l:List Int) (w:World) (hR:Rod w R N) (hN:N≤1000000) (hA:Nums w R A l) (hl0:0<l.length) (hl1:l.length≤1000) :
  Calls Tryz.prog 52 #[.pointer (some ⟨R,0,none⟩),.slice (some A) l.length l.length] w fun e w'=>(∃x,e=.returned (.int .i64 x)∧x∈l)∧Rod w' R (N+1)∧w.grownBy w' (some R):=by
 have ht:=zDr R N (l.length-1:Nat) w hR hN kD4 kD4;have hw:IntKind.i64.wrap ((l.length:Int)-1)=((l.length-1:Nat):Int):=by simp[IntKind.wrap,IntKind.bits,IntKind.signed];omega
 generalize hm:l.length=m at *;go_enter Tryz.func52,Tryz.ntmps52;go_wp2_with fail;refine ht.mono ?_;rintro e w1 ⟨⟨x,rfl,hx0,hx1⟩,hr,hg⟩;clear ht;have hlt:x.toNat<l.length:=kD4
 have hc:=cell_grown hg (hA.cells x.toNat hlt) (by rw[zCO];exact hA.ne);have q1:(0≤x)=True:=kAX hx0;have q2:(x<(m:Int))=True:=kAX kD4;have hmem:l[x.toNat]∈l:=kAC hlt;generalize l[x.toNat]=y at *;go_wp2;go_ret;exact⟨⟨_,rfl,hmem⟩,hr,hg⟩
structure Strs (w:World) (R:Nat) (A:Addr) (l:List ByteArray):Prop where
 cells:∀i (h:i<l.length),w.cell? (A.add i)=some (.string l[i])
 ne:A.block≠R
theorem zCk (R N:Nat) (A:Addr) (l:List ByteArray) (w:World) (hR:Rod w R N) (hN:N≤1000000) (hA:Strs w R A l) (hl0:0<l.length) (hl1:l.length≤1000) :
  Calls Tryz.prog 31 #[.pointer (some ⟨R,0,none⟩),.slice (some A) l.length l.length] w fun e w'=>(∃x,e=.returned (.string x)∧x∈l)∧Rod w' R (N+1)∧w.grownBy w' (some R):=by
 have ht:=zDr R N (l.length-1:Nat) w hR hN kD4 kD4;have hw:IntKind.i64.wrap ((l.length:Int)-1)=((l.length-1:Nat):Int):=by simp[IntKind.wrap,IntKind.bits,IntKind.signed];omega
 generalize hm:l.length=m at *;go_enter Tryz.func31,Tryz.ntmps31;go_wp2_with fail;refine ht.mono ?_;rintro e w1 ⟨⟨x,rfl,hx0,hx1⟩,hr,hg⟩;clear ht;have hlt:x.toNat<l.length:=kD4
 have hc:=cell_grown hg (hA.cells x.toNat hlt) (by rw[zCO];exact hA.ne);have q1:(0≤x)=True:=kAX hx0;have q2:(x<(m:Int))=True:=kAX kD4;have hmem:l[x.toNat]∈l:=kAC hlt;generalize l[x.toNat]=y at *;go_wp2;go_ret;exact⟨⟨_,rfl,hmem⟩,hr,hg⟩
theorem Rod.lt {w:World} {R N:Nat} (h:Rod w R N):R<w.heap.size:=by
 obtain⟨A,l,c,at_,st,h0,_⟩:=h.out;exact zA5 h0
theorem Rod.below {w w1:World} {R N:Nat} (h:Rod w R N) (hb:Below w.heap.size w w1):Rod w1 R N:=by
 obtain⟨A,l,c,at_,st,h0,h1,h2,hl,h3⟩:=h.out;refine⟨A,l,c,at_,st,zAa hb h0,h1,h2,hl,fun i hi=>?_⟩;obtain⟨ad,x,e1,e2,e3⟩:=h3 i hi;exact⟨ad,x,e1,zA0 hb e2,e3⟩
theorem Rod.more {w:World} {R N M:Nat} (h:Rod w R N) (hm:N≤M):Rod w R M:=by
 obtain⟨A,l,c,at_,st,h0,h1,h2,hl,h3⟩:=h.out;exact⟨A,l,c,at_,st,h0,h1,kD4,hl,h3⟩
theorem zFt (w:World) (R:Nat) (l:List ByteArray) (hR:R<w.heap.size):Strs (w.alloc (.cells (l.map Value.string).toArray 9)) R ⟨w.heap.size,0,none⟩ l:=by
 refine⟨fun i hi=>?_,by show w.heap.size≠R;omega⟩;have hb:=zA4 w (.cells (l.map Value.string).toArray 9);rw[zBU];have:=zA1 hb i;rw[this];simp[hi]
theorem zEI (w:World) (R:Nat) (l:List Int) (hR:R<w.heap.size):Nums (w.alloc (.cells (l.map (Value.int .i64)).toArray 3)) R ⟨w.heap.size,0,none⟩ l:=by
 refine⟨fun i hi=>?_,by show w.heap.size≠R;omega⟩;have hb:=zA4 w (.cells (l.map (Value.int .i64)).toArray 3);rw[zBU];have:=zA1 hb i;rw[this];simp[hi]
abbrev nameL:List ByteArray:=[⟨#[97]⟩,⟨#[98]⟩,⟨#[120]⟩,⟨#[121,49]⟩,⟨#[105]⟩]
theorem size28':(Tryz.prog.info? 28).map (·.size)=some 2:=kD5
def decS (n:Int):ByteArray:=(metewandkit_Decimal.f 5 n).getD ⟨#[]⟩
def ratS (p q:Int):S28:=⟨decS (p / (Int.gcd p q:Int)),decS (q / (Int.gcd p q:Int))⟩
theorem dec_some:∀n:Int,0≤n→n≤20→(metewandkit_Decimal.f 5 n).isSome=true∧(decS n).size≤2:=by
 intro n h0 h1;have:n=0∨n=1∨n=2∨n=3∨n=4∨n=5∨n=6∨n=7∨n=8∨n=9∨n=10∨n=11∨n=12∨n=13∨n=14∨n=15∨n=16∨n=17∨n=18∨n=19∨n=20:=kD4
 rcases this with rfl | rfl | rfl | rfl | rfl | rfl | rfl | rfl | rfl | rfl | rfl | rfl | rfl | rfl | rfl | rfl | rfl | rfl | rfl | rfl | rfl
 all_goals exact⟨kD5,kAn kD5⟩
theorem dec_f (n:Int) (h0:0≤n) (h1:n≤20):metewandkit_Decimal.f 5 n=some (decS n):=by
 obtain⟨r,h⟩:=kC3.1 (dec_some n h0 h1).1;rw[h];unfold decS;rw[h];rfl
theorem dec_calls (n:Int) (h0:0≤n) (h1:n≤20) (w:World):Calls Tryz.prog 86 #[.int .i64 n] w fun e w'=>e=.returned (.string (decS n))∧Below w.heap.size w w' :=
 metewandkit_Decimal.calls 5 n _ w (dec_f n h0 h1)
theorem gcdU_step (a b:Int) (ha:0≤a) (hb:0≤b):Int.gcd b (a.tmod b)=Int.gcd a b:=by
 obtain⟨m,rfl⟩:=kBS ha;obtain⟨n,rfl⟩:=kBS hb;rw[← Int.ofNat_tmod,Int.gcd_natCast_natCast,Int.gcd_natCast_natCast,Nat.gcd_comm n,← Nat.gcd_rec,Nat.gcd_comm]
theorem zGm (p q:Int) (hp0:0≤p) (hp1:p≤20) (hq0:1≤q) (hq1:q≤6) (w:World) :
  Calls Tryz.prog 50 #[.int .i64 p,.int .i64 q] w fun e w'=>e=.returned (.agg #[.string (ratS p q).f0,.string (ratS p q).f1])∧Below w.heap.size w w':=by
 have hneg:decide (p<0)=false:=kAc kD4;have h0:=zA4 w (.cells #[.string ⟨#[]⟩,.string ⟨#[]⟩] 28);have hb0:=(kA3 w.heap.size w).alloc (kA2 _) (.cells #[.string ⟨#[]⟩,.string ⟨#[]⟩] 28);go_enter Tryz.func50,Tryz.ntmps50;go_wp2_with fail;generalize w.alloc (.cells #[.string ⟨#[]⟩,.string ⟨#[]⟩] 28)=X at *;go_loopg [5,6] 7 (fun k v5 v6 wr=>∃a b:Int,v5=.int .i64 a∧v6=.int .i64 b∧0≤a∧a≤20∧0≤b∧b<k∧b≤20∧Hid (Int.gcd a b=Int.gcd p q)∧∃n,wr=X.drewN n)
 case atStart=>exact⟨p,q,rfl,rfl,hp0,hp1,kD4,kD4,kD4,kA1 rfl,0,rfl⟩
 case round =>
  obtain⟨a,b,rfl,rfl,ha0,ha1,hb0',hb1,hb2,HG,n,rfl⟩:=hrel;by_cases hz:b=0
  ·have hzb:(b != 0)=false:=by rw[hz];rfl
   have BX:Below w.heap.size w (X.drewN n):=zA3 hb0 n;have hX:(X.drewN n).heap[w.heap.size]?=some (.cells #[.string ⟨#[]⟩,.string ⟨#[]⟩] 28 (0,0)):=zAZ h0 n;generalize X.drewN n=Y at *;have hX:Y.drew.heap[w.heap.size]?=some (.cells #[.string ⟨#[]⟩,.string ⟨#[]⟩] 28 (0,0)):=hX;have BX:=BX.drew;have tr:True:=trivial;have HP:=kA1 (fun (c:Int) (hc:1≤c) w=>(by
    have e1:=kBz (b:=c) hp0;have e2:=kBV hp0 (show 0≤c by omega);have e3:=Int.le_trans (kCQ c hp0) hp1;have e4:IntKind.i64.wrap (p.tdiv c)=p / c:=by rw[e1];generalize p / c=z at *;simp[IntKind.wrap,IntKind.bits,IntKind.signed];omega
    rw[e4];exact dec_calls (p / c) e2 e3 w:Calls Tryz.prog 86 #[.int .i64 (IntKind.i64.wrap (p.tdiv c))] w fun e w'=>e=.returned (.string (decS (p / c)))∧Below w.heap.size w w'))
   have HQ:=kA1 (fun (c:Int) (hc:1≤c) w=>(by
    have hq0':0≤q:=kD4
    have e1:=kBz (b:=c) hq0';have e2:=kBV hq0' (show 0≤c by omega);have e3:=Int.le_trans (kCQ c hq0') (show q≤20 by omega);have e4:IntKind.i64.wrap (q.tdiv c)=q / c:=by rw[e1];generalize q / c=z at *;simp[IntKind.wrap,IntKind.bits,IntKind.signed];omega
    rw[e4];exact dec_calls (q / c) e2 e3 w:Calls Tryz.prog 86 #[.int .i64 (IntKind.i64.wrap (q.tdiv c))] w fun e w'=>e=.returned (.string (decS (q / c)))∧Below w.heap.size w w'))
   have hga:(Int.gcd p q:Int)=a:=by
    have:=HG.out;rw[hz,Int.gcd_zero_right] at this;omega
   have hg1:1≤a:=by
    have:0<Int.gcd p q:=Int.gcd_pos_of_ne_zero_right _ kD4;omega
   have HGA:=kA1 hga;clear hga;have ha:¬a<1:=kD4
   have hab:decide (a<1)=false:=kAc ha;have HP:=HP.out a kD4;have HQ:=HQ.out a kD4;have hz1:(a=0)=False:=kD8
   have hz2:(a==0)=false:=zAF kD4;have HP:=kA1 HP;have HQ:=kA1 HQ;go_wp2_with fail
   go_region_held3 (fun _:World=>True) (first | exact tr) (first
    | (go_at_call 86;refine (HP.out _).mono ?_;rintro e wq ⟨rfl,hq⟩;clear HP;have hX:=zAa hq hX;have BX:=BX.trans (hq.mono BX.size))
    | (go_at_call 86;refine (HQ.out _).mono ?_;rintro e wr ⟨rfl,hq⟩;clear HQ;have hX:=zAa hq hX;have BX:=BX.trans (hq.mono BX.size);have c0:=zA1 hX 0;have c1:=zA1 hX 1;have e0:=zA2 hX 0;have e1:=zA2 hX 1))
   go_wp2;exact kAi (zAg Tryz.results50 _ _ w.heap.size 28 _ (0,0) _ rfl (zA8 (zA8 hX 0 _) 1 _) Tryz.underlying28 rfl size28') rfl ⟨by unfold ratS;rw[HGA.out];rfl,(BX.setCell (p:=⟨w.heap.size,0,none⟩) (kA2 _) _).setCell (p:=⟨w.heap.size,1,none⟩) (kA2 _) _⟩
  ·have hzb:(b != 0)=true:=kCV.2 hz;have hz1:(b=0)=False:=kD8
   have hz2:(b==0)=false:=zAF kD4;have tr:True:=trivial;go_wp2_with fail
   go_region_held3 (fun _:World=>True) (first | exact tr) (fail)
   go_wp2_with fail;have m0:0≤a.tmod b:=Int.tmod_nonneg b ha0;have m1:a.tmod b<b:=Int.tmod_lt_of_pos a kD4;go_roundg (gk-1)
   case measure=>omega
   case rel=>exact⟨b,a.tmod b,rfl,rfl,kD4,kD4,m0,kD4,kD4,kA1 ((gcdU_step a b ha0 hb0').trans HG.out),n+1,rfl⟩
def ofR (n:Int):ByteArray:=(metewandref01_OfInt.f 5 n).getD ⟨#[]⟩
theorem ofR_all:((List.range 109).all fun i=>(metewandref01_OfInt.f 5 ((i:Int)-9)).isSome&&decide ((ofR ((i:Int)-9)).size≤2))=true:=kD5
theorem ofR_at (n:Int) (h0:-9≤n) (h1:n≤99):(metewandref01_OfInt.f 5 n).isSome=true∧(ofR n).size≤2:=by
 have:=kBo.1 ofR_all (n+9).toNat (kBY.2 kD4);rw[show ((((n+9).toNat:Nat):Int)-9)=n by omega,kAo,kAU] at this;exact this
theorem zCz (n:Int) (h0:-9≤n) (h1:n≤99):(ofR n).size≤2:=(ofR_at n h0 h1).2
theorem zEp (n:Int) (h0:-9≤n) (h1:n≤99) (w:World):Calls Tryz.prog 84 #[.int .i64 n] w fun e w'=>e=.returned (.string (ofR n))∧Below w.heap.size w w':=by
 obtain⟨r,h⟩:=kC3.1 (ofR_at n h0 h1).1;have e:ofR n=r:=by unfold ofR;rw[h];rfl
 rw[e];exact metewandref01_OfInt.calls 5 n r w h
def levR (op:Int):Int:=if op=13 then 0 else if op=12 then 0 else if op=10 then 0 else if op=11 then 0 else if op=2 then 1 else if op=3 then 1 else if op=4 then 1 else if op=5 then 2 else if op=6 then 2 else if op=7 then 3 else 4
theorem levR_f (op:Int) (a b c:ByteArray) (d:Int) (l:List S31):metewandref13_level.f 20 op a b c d l=some (levR op):=by
 unfold metewandref13_level.f levR;simp only[metewandref13_level.j0,metewandref13_level.j1,metewandref13_level.j2];by_cases h13:op=13
 ·simp[h13]
 by_cases h12:op=12
 ·simp[h12]
 by_cases h10:op=10
 ·simp[h10]
 by_cases h11:op=11
 ·simp[h11]
 by_cases h2:op=2
 ·simp[h2]
 by_cases h3:op=3
 ·simp[h3]
 by_cases h4:op=4
 ·simp[h4]
 by_cases h5:op=5
 ·simp[h5]
 by_cases h6:op=6
 ·simp[h6]
 by_cases h7:op=7
 ·simp[h7]
 simp[h13,h12,h10,h11,h2,h3,h4,h5,h6,h7]
def zCm (lv want:Int) (t:ByteArray):ByteArray:=if lv<want then ⟨#[40]⟩++t++⟨#[41]⟩ else t
def argR (ts:List (Int×ByteArray)) (i:Nat) (want:Int):ByteArray:=zCm (ts.getD i (0,⟨#[]⟩)).1 want (ts.getD i (0,⟨#[]⟩)).2
def zAV:List ByteArray→ByteArray
 | []=>⟨#[]⟩
 | t :: ts=>ts.foldl (fun a u=>a++⟨#[44,32]⟩++u) t
theorem ByteArray.empty_app (t:ByteArray):(⟨#[]⟩:ByteArray)++t=t:=by apply kBG;simp[kBP]
theorem joinR_snoc (l:List ByteArray) (t:ByteArray) (h:l≠[]):zAV (l++[t])=zAV l++⟨#[44,32]⟩++t:=by
 cases l with
 | nil=>exact absurd rfl h
 | cons a l=>simp[zAV,List.foldl_append]
def litN (num:S28):ByteArray:=if num.f1.toList == [49] then num.f0 else num.f0++⟨#[124]⟩++num.f1
def litR (num:S28) (name:ByteArray):ByteArray:=if name.toList == [] then litN num else litN num++⟨#[123]⟩++name++⟨#[125]⟩
def openRO (op:Int) (num:S28) (name:ByteArray) (size:Int) (ts:List (Int×ByteArray)):ByteArray :=
 if op=0 then litR num name else
 if op=1 then name else
 if op=2 then ⟨#[45]⟩++argR ts 0 2 else
 if op=3 then argR ts 0 1++⟨#[32,43,32]⟩++argR ts 1 2 else
 if op=4 then argR ts 0 1++⟨#[32,45,32]⟩++argR ts 1 2 else
 if op=5 then argR ts 0 2++⟨#[32,42,32]⟩++argR ts 1 3 else
 if op=6 then argR ts 0 2++⟨#[32,47,32]⟩++argR ts 1 3 else
 if op=7 then argR ts 0 4++⟨#[94]⟩++(ofR size) else
 if op=9 then argR ts 0 4++⟨#[91]⟩++argR ts 1 0++⟨#[93]⟩ else
 if op=10 then ⟨#[116,97,98,32]⟩++name++⟨#[32,60,32]⟩++(ofR size)++⟨#[32,46,32]⟩++argR ts 0 0 else
 if op=11 then ⟨#[115,117,109,32]⟩++name++⟨#[32,60,32]⟩++(ofR size)++⟨#[32,46,32]⟩++argR ts 0 0 else
 if op=12 then ⟨#[105,102,32]⟩++argR ts 0 1++⟨#[32,60,32]⟩++argR ts 1 1++⟨#[32,116,104,101,110,32]⟩++argR ts 2 0++⟨#[32,101,108,115,101,32]⟩++argR ts 3 0 else
 if op=13 then ⟨#[108,101,116,32]⟩++name++⟨#[32,61,32]⟩++argR ts 0 0++⟨#[32,105,110,32]⟩++argR ts 1 0 else
 if op=8 then ⟨#[91]⟩++zAV (ts.map fun p=>zCm p.1 0 p.2)++⟨#[93]⟩ else
 name++⟨#[40]⟩++zAV (ts.map fun p=>zCm p.1 0 p.2)++⟨#[41]⟩
mutual
def zAr:S31→ByteArray
 | ⟨op,num,name,size,l⟩=>openRO op num name size (zGh l)
def zGh:List S31→List (Int×ByteArray)
 | []=>[]
 | x :: l=>(levR x.f0,zAr x) :: zGh l
end
def zA7 (x:S31) (want:Int):ByteArray:=zCm (levR x.f0) want (zAr x)
theorem zBS:∀l:List S31,(zGh l).map (fun p=>zCm p.1 0 p.2)=l.map (fun y=>zA7 y 0)
 | []=>rfl
 | x :: l=>by
  unfold zGh;rw[kAh,kAh,zBS l];rfl
theorem zCK (x:S31) (want:Int):(zA7 x want).size≤(zAr x).size+2:=by
 unfold zA7 zCm;split
 ·rw[kBm,kBm];show 1+(zAr x).size+1≤_;omega
 ·omega
theorem rtext_of (x:S31) (hsz:(zAr x).size≤1000000) (hop:∀v w,Vw w x v→Calls Tryz.prog 46 #[v] w fun e w'=>e=.returned (.string (zAr x))∧Below w.heap.size w w') (want:Int) (v:Value) (w:World) (hv:Vw w x v) :
  Calls Tryz.prog 83 #[v,.int .i64 want] w fun e w'=>e=.returned (.string (zA7 x want))∧Below w.heap.size w w':=by
 obtain⟨A,c,rfl,hc1,hc2⟩:=hv.out;have hb:=(kA3 w.heap.size w).alloc (kA2 _) (.cells #[.int .i64 x.f0,.string x.f1.f0,.string x.f1.f1,.string x.f2,.int .i64 x.f3,.slice A x.f4.length c] 31);have hbl:=zA4 w (.cells #[.int .i64 x.f0,.string x.f1.f0,.string x.f1.f1,.string x.f2,.int .i64 x.f3,.slice A x.f4.length c] 31);have HL:=kA1 (metewandref13_level.calls 20 x.f0 x.f1.f0 x.f1.f1 x.f2 x.f3 A c x.f4 (levR x.f0) _ (Kd.C_below hc2 hb) hc1 (levR_f _ _ _ _ _ _));have HO:=kA1 hop;have HV:=kA1 hv;have HT:Hid (zA7 x want=zCm (levR x.f0) want (zAr x)):=kA1 rfl;generalize zA7 x want=R at *;generalize zAr x=r at *;generalize levR x.f0=lv at *;unfold exV at *;clear hop hv hc2;go_enter Tryz.func83,Tryz.ntmps83;go_wp2_with fail;refine HL.out.mono ?_;rintro e w1 ⟨rfl,hb1⟩;have hx:=zAa hb1 hbl;obtain⟨⟨p0,p1,p2,p3,p4,p5⟩,_,xl⟩:=zA6 hx;have hw1:=hb.trans (hb1.mono hb.size);clear hb hb1 hbl HL
 cases hl:decide (lv<want)
 ·go_wp2_with fail;refine (HO.out _ _ (HV.out.below hw1)).mono ?_;rintro e w2 ⟨rfl,hb2⟩;go_wp2;go_ret;exact⟨by rw[HT.out];unfold zCm;rw[kA9 (kCe hl)];rfl,hw1.trans (hb2.mono hw1.size)⟩
 ·go_wp2_with fail;refine (HO.out _ _ (HV.out.below hw1)).mono ?_;rintro e w2 ⟨rfl,hb2⟩;go_wp2;go_ret;exact⟨by rw[HT.out];unfold zCm;rw[kAa (kAn hl)];rfl,hw1.trans (hb2.mono hw1.size)⟩
theorem rtexts_of (l:List S31) (hl:l.length≤1000000) (hsz:∀j,j≤l.length→(zAV ((l.take j).map fun y=>zA7 y 0)).size≤1000000) (hs1:∀j (h:j<l.length),(zA7 l[j] 0).size≤1000000)
  (hrec:∀j (h:j<l.length) v w,Vw w l[j] v→Calls Tryz.prog 83 #[v,.int .i64 0] w fun e w'=>e=.returned (.string (zA7 l[j] 0))∧Below w.heap.size w w') (A:Option Addr) (c:Nat) (w:World) (hc:k31.C w A l.length l) :
  Calls Tryz.prog 85 #[.slice A l.length c] w fun e w'=>e=.returned (.string (zAV (l.map fun y=>zA7 y 0)))∧Below w.heap.size w w':=by
 have hjs:∀j (hj:j<l.length),0<j→zAV ((l.take (j+1)).map fun y=>zA7 y 0)=zAV ((l.take j).map fun y=>zA7 y 0)++⟨#[44,32]⟩++zA7 l[j] 0:=fun j hj h0=>by
  rw[zCH l j hj,kD0,List.map_singleton,joinR_snoc _ _ (by
   intro e;have:=congrArg List.length e;rw[kCh,kAe,List.length_nil] at this;omega)]
 have hj0:∀h:0<l.length,zAV ((l.take 1).map fun y=>zA7 y 0)=zA7 l[0] 0:=fun hj=>by
  rw[zCH l 0 hj];rfl
 have hfin:l.take l.length=l:=kB6;have HC:=kA1 hc;have HJ:=kA1 hjs;have HJ0:=kA1 hj0;have HF:=kA1 hfin;have HS:=kA1 hsz;have HS1:=kA1 hs1;have HR:=kA1 hrec;clear hc hjs hj0 hfin hsz hs1 hrec;go_enter Tryz.func85,Tryz.ntmps85;go_wp2;go_loopg [3,4] l.length (fun k v3 v4 wr=>∃j:Nat,j+k=l.length∧v4=.int .i64 j∧v3=.string (zAV ((l.take j).map fun y=>zA7 y 0))∧Below w.heap.size w wr)
 case atStart=>exact⟨0,kD4,rfl,rfl,kA3 _ _⟩
 case round =>
  obtain⟨j,hj,rfl,rfl,hb⟩:=hrel;by_cases hjl:j<l.length
  ·obtain⟨ad,A5,c5,rfl,q0,q1,q2,q3,q4,q5,hvw⟩:=zAh (Kd.C_below HC.out hb) j hjl;have hr:=HR.out j hjl;have hs2:=HS.out j kD4;have hs3:=HS1.out j hjl;have hn:=HJ.out j hjl;have h00:j=0→zAV ((l.take (j+1)).map fun y=>zA7 y 0)=zA7 l[j] 0:=fun e=>by
    subst e;exact HJ0.out hjl
   have HN:=kA1 hn;have H00:=kA1 h00;clear hn h00;have HZ:Hid (j=0→zAV ((l.take j).map fun y=>zA7 y 0)=⟨#[]⟩):=kA1 (fun e=>by subst e;rfl);generalize zAV ((l.take j).map fun y=>zA7 y 0)=r0 at *;generalize l[j]=y at *;generalize zA7 y 0=t at *;have HV:=kA1 hvw;have HR2:=kA1 hr;clear hvw hr;by_cases h0:j=0
   ·have hd:decide (0<j)=false:=kAc kD4;obtain rfl:=HZ.out h0;have E1:=kA1 (H00.out h0);clear h0;go_wp2_with fail;refine (HR2.out _ _ HV.out).mono ?_;rintro e w1 ⟨rfl,hb1⟩;have hb2:=hb.trans (hb1.mono hb.size);go_wp2;go_roundg (gk-1)
    case measure=>omega
    case rel=>exact⟨j+1,kD4,by go_num,by rw[E1.out,ByteArray.empty_app],hb2⟩
   ·have hd:decide (0<j)=true:=kA8 kD4;have hd2:0<j:=kD4
    have e1:=HN.out kD4;have E1:=kA1 e1;clear e1;go_wp2_with fail;refine (HR2.out _ _ HV.out).mono ?_;rintro e w1 ⟨rfl,hb1⟩;have hb2:=hb.trans (hb1.mono hb.size);go_wp2;go_roundg (gk-1)
    case measure=>omega
    case rel=>exact⟨j+1,kD4,by go_num,by rw[E1.out],hb2⟩
  ·obtain rfl:j=l.length:=kD4
   go_wp2;go_ret;exact⟨by rw[HF.out];rfl,hb⟩
end Go.Proofs.YtjaobihcdkjmbaaGreatDoor
end
