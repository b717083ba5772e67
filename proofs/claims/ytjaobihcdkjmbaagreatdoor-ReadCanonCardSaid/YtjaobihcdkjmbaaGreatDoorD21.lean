/- What can be read as an expression is printed as a text that reads as the same, and is printed as itself: for every argument; a part of its proof. -/
import Derived.Test.YtjaobihcdkjmbaaGreatDoorDa
import Derived.Test.YtjaobihcdkjmbaaGreatDoorDb
import Derived.Test.YtjaobihcdkjmbaaGreatDoorD0
import Derived.Test.YtjaobihcdkjmbaaGreatDoorD7
import Derived.Test.YtjaobihcdkjmbaaGreatDoorD11
import Derived.Test.YtjaobihcdkjmbaaGreatDoorD13
import Derived.Test.YtjaobihcdkjmbaaGreatDoorD14
import Derived.Test.YtjaobihcdkjmbaaGreatDoorD16
import Derived.Test.YtjaobihcdkjmbaaGreatDoorD17
import Derived.Test.YtjaobihcdkjmbaaGreatDoorD19
set_option linter.unusedVariables false
set_option linter.unusedSimpArgs false
namespace Go.Proofs.YtjaobihcdkjmbaaGreatDoor.PReadTokens
end Go.Proofs.YtjaobihcdkjmbaaGreatDoor.PReadTokens
namespace Go.Proofs.YtjaobihcdkjmbaaGreatDoorW.PrintWords
end Go.Proofs.YtjaobihcdkjmbaaGreatDoorW.PrintWords
set_option maxRecDepth 100000
set_option maxHeartbeats 4000000
section
namespace Go.Proofs.YtjaobihcdkjmbaaGreatDoor
open Go.RowKit Go.Proofs.YtjaobihcdkjmbaaGreatDoorW.PrintWords Go.Proofs.YtjaobihcdkjmbaaGreatDoor.PReadTokens
theorem Ex.one {W:World} {S:Nat→Prop} {x:S31} {v5:Value} (h:Ex W S x (exV x v5)) (hS:S W.heap.size) (y:S31) (hy:y.f4=[x]) :
  Ex (W.alloc (.cells #[.int .i64 x.f0,.string x.f1.f0,.string x.f1.f1,.string x.f2,.int .i64 x.f3,v5] 31)) S y (exV y (.slice (some ⟨W.heap.size,0,none⟩) 1 1)):=by
 obtain⟨v,A,N,C,h1,h2,_,hM⟩:=h.cells;obtain rfl:=zCu h1;refine⟨_,rfl,?_⟩;rw[hy];exact lit_row (xs:=[x]) ((Reps.none _ _).snoc hM rfl) hS kD6
theorem sums_pos (W0:World) (R B:Nat) (ts:List S47) (en:Nat) (chk:S28→Int) (ex:Nat→PR) (m now:Nat) (w:World) (E:Env W0 R B ts) (h:St W0 R B ts en now w) (hm:m≤now)
  (hp:Pars W0 R B ts en 160 (zAX ts en chk ex) m) (hneg:sk ts en now ⟨#[45]⟩=false) :
  Calls Tryz.prog 135 #[.pointer (some ⟨R,0,none⟩)] w (zAk w R ts en now (zD2 ts en chk ex now)):=by
 have few:=E.few;have hRw:=h.rdr.lt;have hne0:=kAs hRw;have hnow:now≤ts.length:=h.pos;have hsk:=zAT R ts now en ⟨#[45]⟩ (w.alloc zO) (h.rdr.keep ((kA3 _ _).alloc (kA2 _) _)) h.pos hneg;have h0:St W0 R B ts en now (w.alloc zO):=h.below ((kA3 _ _).alloc (kA2 _) _);have HP:=kA1 hp;have H:=kA1 h;unfold zD2;rw[kA9 (by rw[hneg];decide)];clear hneg hp h
 cases hc:zAX ts en chk ex now with
 | error p =>
  go_enter Tryz.func135,Tryz.ntmps135;go_wp2_with fail;refine hsk.mono ?_;rintro e wk ⟨rfl,hkk⟩;have hp0:=HP.out now wk kD4 (h0.took E hkk hnow);rw[hc] at hp0;unfold zAk zAm at hp0;clear hc;go_wp2_with fail;refine hp0.mono ?_;rintro e w1 ⟨rfl,hg⟩;go_wp2;exact⟨rfl,rfl,kA7 (hkk.start.grown) hg⟩
 | ok r =>
  obtain⟨x,n⟩:=r;show Calls _ _ _ _ (zAk w R ts en now (zB2 ts en chk ex (ts.length+1) x n));generalize hres:zB2 ts en chk ex (ts.length+1) x n=res;have HresL:=kA1 hres;clear hres;go_enter Tryz.func135,Tryz.ntmps135;go_wp2_with fail;refine hsk.mono ?_;rintro e wk ⟨rfl,hkk⟩;have hp0:=HP.out now wk kD4 (h0.took E hkk hnow);rw[hc] at hp0;unfold zAk at hp0;clear hc;have hzk:=hkk.blk (zA4 w zO) hne0;go_wp2_with fail;refine hp0.mono ?_;rintro e w1 ⟨hn1,hn2,v,rfl,hx,hk⟩;obtain⟨v5,A5,n5,c5,rfl,rfl,_,_⟩:=hx.cells;unfold exV;have hX0:=hk.rdr.lt;have hz1:=hk.blk hzk hne0;have hXw:w.heap.size<w1.heap.size:=zA5 hz1;have hwk:w.heap.size<wk.heap.size:=zA5 hzk;have g1:Gath W0 R B ts en w w1.heap.size (w1.alloc (.cells #[.int .i64 x.f0,.string x.f1.f0,.string x.f1.f1,.string x.f2,.int .i64 x.f3,.slice A5 n5 c5] 31)) x n (.slice A5 n5 c5) :=
   ⟨(((h0.took E hkk hnow).took E hk hn2).below ((kA3 _ _).alloc (kA2 _) _)),(hkk.start.trans hk).alloc _,zA4 _ _,(hx.old (fun k h1 h2=>⟨by simp[From] at h1;omega,kB8 h2⟩)).below ((kA3 _ _).alloc (kA2 _) _),
    (kA4 _ _ _ (zA5 hz1)).trans hz1⟩
  have hXR:w1.heap.size≠R:=kAs hk.rdr.lt;obtain⟨⟨p0,p1,p2,p3,p4,p5⟩,⟨y0,y1,y2,y3,y4,y5⟩,xl⟩:=zA6 g1.blk;go_wp2;generalize w1.heap.size=X at *;generalize hW:w1.alloc _=W at *;clear hW hk hx hp0 h0 hkk hzk hz1 hX0 p0 p1 p2 p3 p4 p5 y0 y1 y2 y3 y4 y5 xl;have hres:=HresL.out;clear HresL;go_loopg [] (ts.length+1) (fun k wr=>∃x n v5,m<n∧now<n∧n≤ts.length∧ts.length<n+k∧Gath W0 R B ts en w X wr x n v5∧Hid (zB2 ts en chk ex k x n=res))
  case atStart=>exact⟨x,n,_,kD4,kD4,hn2,kD4,g1,hres⟩
  case round =>
   clear g1 hres hn1 hn2;obtain⟨x,n,v5,hmn,hnn,hnl,hfuel,G,Hres⟩:=hrel;obtain⟨_,A5,n5,c5,h5,rfl,_,_⟩:=G.val.cells;obtain rfl:=zCu h5
   cases gk with
   | zero=>omega
   | succ gk =>
   cases h1:sk ts en n ⟨#[43]⟩ with
   | true =>
    have hs:=zAE R ts n en ⟨#[43]⟩ wr G.st.rdr few h1;have hlt:=zAv h1
    cases hc:zAX ts en chk ex (n+1) with
    | error p =>
     have Hres':Hid (res=.error p):=by
      have:=Hres.out;unfold zB2 at this;rw[kAa h1,hc] at this;exact kA1 this.symm
     go_wp2_with fail;refine hs.mono ?_;rintro e w1 ⟨rfl,hk1⟩;have G1:=G.go E hRw hXw hk1 hlt;obtain⟨⟨p0,p1,p2,p3,p4,p5⟩,-,xl⟩:=zA6 G1.blk;have G1d:=G1.below ((kA3 _ w1).drew);have hp1:=HP.out (n+1) _ kD4 G1d.st;rw[hc] at hp1;unfold zAk at hp1;unfold zAm at hp1;clear hc;go_wp2_with fail;refine kB7 (S:=(fun w'=>w'.cell? ⟨X,0,none⟩=some (Value.int IntKind.i64 x.f0)∧w'.cell? ⟨X,1,none⟩=some (Value.string x.f1.f0)∧w'.cell? ⟨X,2,none⟩=some (Value.string x.f1.f1)∧w'.cell? ⟨X,3,none⟩=some (Value.string x.f2)∧w'.cell? ⟨X,4,none⟩=some (Value.int IntKind.i64 x.f3)∧w'.cell? ⟨X,5,none⟩=some (.slice A5 n5 c5))) kD5 (zA6 G1d.blk).1 (fun hHeld=>?_);refine kAx (i:=0) (v:=?v0c1) rfl kD5 kD5 kD5 (fun _ _ _ h=>h) (Or.inl ⟨kD9,?hy0c1⟩) kDb ?rest0c1
     case hy0c1=>(intro w hSw;(try dsimp only at hSw);go_simp;try (with_reducible rfl))
     try simp only[Act.put,kA0,List.set_cons_zero,List.set_cons_succ]
     refine kAx (i:=1) (v:=?v1c2) rfl kD5 kD5 kD5 (fun _ _ _ h=>h) (Or.inl ⟨kD9,?hy1c2⟩) kDb ?rest1c2
     case hy1c2=>(intro w hSw;(try dsimp only at hSw);go_simp;try (with_reducible rfl))
     try simp only[Act.put,kA0,List.set_cons_zero,List.set_cons_succ]
     refine kBO (rs:=[2]) kD5 kD6 ?_;refine kBF rfl (fun K hK=>?_) kBJ;go_simp;go_wp2_with (go_at_call 160;refine hp1.mono ?_;rintro e w2 ⟨rfl,hg2⟩);rw[Hres'.out];exact⟨rfl,rfl,kA7 G1d.took.grown hg2⟩
    | ok r =>
     obtain⟨y,n2⟩:=r;have Hres':Hid (zB2 ts en chk ex gk (twoX 3 x y) n2=res):=by
      have:=Hres.out;unfold zB2 at this;rw[kAa h1,hc] at this;exact kA1 this
     go_wp2_with fail;refine hs.mono ?_;rintro e w1 ⟨rfl,hk1⟩;have G1:=G.go E hRw hXw hk1 hlt;obtain⟨⟨p0,p1,p2,p3,p4,p5⟩,-,xl⟩:=zA6 G1.blk;have G1d:=G1.below ((kA3 _ w1).drew);have hp1:=HP.out (n+1) _ kD4 G1d.st;rw[hc] at hp1;unfold zAk at hp1;clear hc;go_wp2_with fail
     go_region_with ((first
      | (go_at_call 160;refine hp1.mono ?_;rintro e w2 ⟨hn1,hn2,vy,rfl,hy,hk2⟩;have G2:=G1d.go E hRw hXw hk2 hn2;have hw:=G1d.two 3 E hRw hXw hy hk2 hn2;obtain⟨⟨q0,q1,q2,q3,q4,q5⟩,-,lt2⟩:=zA6 G2.blk)
      | (go_at_call 161;refine hw.mono ?_;rintro e w3 ⟨u,A,N,C,rfl,rfl,G3,hu⟩;obtain⟨⟨r0,r1,r2,r3,r4,r5⟩,⟨f0,f1,f2,f3,f4,f5⟩,lt3⟩:=zA6 G3.blk;simp only[exV,twoX])))
     all_goals
      have G4:=G3.store E hRw hXw hu;go_wp2;go_roundg gk
      case measure=>omega
      case rel=>exact⟨_,n2,_,kD4,kD4,hn2,kD4,G4,Hres'⟩
   | false =>
    have hs:=zAT R ts n en ⟨#[43]⟩ wr G.st.rdr hnl h1
    cases h2:sk ts en n ⟨#[45]⟩ with
    | true =>
     have hlt:=zAv h2
     cases hc:zAX ts en chk ex (n+1) with
     | error p =>
      have Hres':Hid (res=.error p):=by
       have:=Hres.out;unfold zB2 at this;rw[kA9 kDj,kAa h2,hc] at this;exact kA1 this.symm
      go_wp2_with fail;refine hs.mono ?_;rintro e w0 ⟨rfl,hk0⟩;have G0:=G.go E hRw hXw hk0 hnl;have hs2:=zAE R ts n en ⟨#[45]⟩ w0 G0.st.rdr few h2;go_wp2_with fail;refine hs2.mono ?_;rintro e w1 ⟨rfl,hk1⟩;have G1:=G0.go E hRw hXw hk1 hlt;obtain⟨⟨p0,p1,p2,p3,p4,p5⟩,-,xl⟩:=zA6 G1.blk;have G1d:=G1.below ((kA3 _ w1).drew);have hp1:=HP.out (n+1) _ kD4 G1d.st;rw[hc] at hp1;unfold zAk at hp1;unfold zAm at hp1;clear hc;go_wp2_with fail;refine kB7 (S:=(fun w'=>w'.cell? ⟨X,0,none⟩=some (Value.int IntKind.i64 x.f0)∧w'.cell? ⟨X,1,none⟩=some (Value.string x.f1.f0)∧w'.cell? ⟨X,2,none⟩=some (Value.string x.f1.f1)∧w'.cell? ⟨X,3,none⟩=some (Value.string x.f2)∧w'.cell? ⟨X,4,none⟩=some (Value.int IntKind.i64 x.f3)∧w'.cell? ⟨X,5,none⟩=some (.slice A5 n5 c5))) kD5 (zA6 G1d.blk).1 (fun hHeld=>?_);refine kAx (i:=0) (v:=?v0c3) rfl kD5 kD5 kD5 (fun _ _ _ h=>h) (Or.inl ⟨kD9,?hy0c3⟩) kDb ?rest0c3
      case hy0c3=>(intro w hSw;(try dsimp only at hSw);go_simp;try (with_reducible rfl))
      try simp only[Act.put,kA0,List.set_cons_zero,List.set_cons_succ]
      refine kAx (i:=1) (v:=?v1c4) rfl kD5 kD5 kD5 (fun _ _ _ h=>h) (Or.inl ⟨kD9,?hy1c4⟩) kDb ?rest1c4
      case hy1c4=>(intro w hSw;(try dsimp only at hSw);go_simp;try (with_reducible rfl))
      try simp only[Act.put,kA0,List.set_cons_zero,List.set_cons_succ]
      refine kBO (rs:=[2]) kD5 kD6 ?_;refine kBF rfl (fun K hK=>?_) kBJ;go_simp;go_wp2_with (go_at_call 160;refine hp1.mono ?_;rintro e w2 ⟨rfl,hg2⟩);rw[Hres'.out];exact⟨rfl,rfl,kA7 G1d.took.grown hg2⟩
     | ok r =>
      obtain⟨y,n2⟩:=r;have Hres':Hid (zB2 ts en chk ex gk (twoX 4 x y) n2=res):=by
       have:=Hres.out;unfold zB2 at this;rw[kA9 kDj,kAa h2,hc] at this;exact kA1 this
      go_wp2_with fail;refine hs.mono ?_;rintro e w0 ⟨rfl,hk0⟩;have G0:=G.go E hRw hXw hk0 hnl;have hs2:=zAE R ts n en ⟨#[45]⟩ w0 G0.st.rdr few h2;go_wp2_with fail;refine hs2.mono ?_;rintro e w1 ⟨rfl,hk1⟩;have G1:=G0.go E hRw hXw hk1 hlt;obtain⟨⟨p0,p1,p2,p3,p4,p5⟩,-,xl⟩:=zA6 G1.blk;have G1d:=G1.below ((kA3 _ w1).drew);have hp1:=HP.out (n+1) _ kD4 G1d.st;rw[hc] at hp1;unfold zAk at hp1;clear hc;go_wp2_with fail
      go_region_with ((first
       | (go_at_call 160;refine hp1.mono ?_;rintro e w2 ⟨hn1,hn2,vy,rfl,hy,hk2⟩;have G2:=G1d.go E hRw hXw hk2 hn2;have hw:=G1d.two 4 E hRw hXw hy hk2 hn2;obtain⟨⟨q0,q1,q2,q3,q4,q5⟩,-,lt2⟩:=zA6 G2.blk)
       | (go_at_call 161;refine hw.mono ?_;rintro e w3 ⟨u,A,N,C,rfl,rfl,G3,hu⟩;obtain⟨⟨r0,r1,r2,r3,r4,r5⟩,⟨f0,f1,f2,f3,f4,f5⟩,lt3⟩:=zA6 G3.blk;simp only[exV,twoX])))
      all_goals
       have G4:=G3.store E hRw hXw hu;go_wp2;go_roundg gk
       case measure=>omega
       case rel=>exact⟨_,n2,_,kD4,kD4,hn2,kD4,G4,Hres'⟩
    | false =>
     have Hres':Hid (res=.ok (x,n)):=by
      have:=Hres.out;unfold zB2 at this;rw[kA9 kDj,kA9 kDB] at this;exact kA1 this.symm
     go_wp2_with fail;refine hs.mono ?_;rintro e w0 ⟨rfl,hk0⟩;have G0:=G.go E hRw hXw hk0 hnl;have hs2:=zAT R ts n en ⟨#[45]⟩ w0 G0.st.rdr hnl h2;go_wp2_with fail;refine hs2.mono ?_;rintro e w1 ⟨rfl,hk1⟩;have G1:=G0.go E hRw hXw hk1 hnl;obtain⟨⟨p0,p1,p2,p3,p4,p5⟩,-,xl⟩:=zA6 G1.blk;obtain⟨⟨q0,q1,q2,q3,q4,q5⟩,⟨f0,f1,f2,f3,f4,f5⟩,xl2⟩:=zA6 G1.res;go_wp2;rw[Hres'.out];refine kAi (zAg Tryz.results135 _ _ w.heap.size 31 _ (0,0) _ rfl (fin6 _ _ _ _ _ _ G1.res) Tryz.underlying31 rfl zB6) rfl ⟨hnn,hnl,_,rfl,?_,?_⟩
     ·exact (G1.val.set6 (fun k hk=>kAs hk.1) _ _ _ _ _ _).mono (fun k hk=>kAP hk.1)
     ·exact G1.took.set6 G1.res hne0 (kA2 _) _ _ _ _ _ _
theorem sums_neg (W0:World) (R B:Nat) (ts:List S47) (en:Nat) (chk:S28→Int) (ex:Nat→PR) (m now:Nat) (w:World) (E:Env W0 R B ts) (h:St W0 R B ts en now w) (hm:m≤now)
  (hp:Pars W0 R B ts en 160 (zAX ts en chk ex) m) (hneg:sk ts en now ⟨#[45]⟩=true) :
  Calls Tryz.prog 135 #[.pointer (some ⟨R,0,none⟩)] w (zAk w R ts en now (zD2 ts en chk ex now)):=by
 have few:=E.few;have hRw:=h.rdr.lt;have hne0:=kAs hRw;have hnow:now+1≤ts.length:=zAv hneg;have hsk:=zAE R ts now en ⟨#[45]⟩ (w.alloc zO) (h.rdr.keep ((kA3 _ _).alloc (kA2 _) _)) few hneg;have h0:St W0 R B ts en now (w.alloc zO):=h.below ((kA3 _ _).alloc (kA2 _) _);have HP:=kA1 hp;have H:=kA1 h;unfold zD2;rw[kAa hneg];clear hneg hp h
 cases hc:zAX ts en chk ex (now+1) with
 | error p =>
  go_enter Tryz.func135,Tryz.ntmps135;go_wp2_with fail;refine hsk.mono ?_;rintro e wk ⟨rfl,hkk⟩;have hp0:=HP.out (now+1) wk kD4 (h0.took E hkk hnow);rw[hc] at hp0;unfold zAk zAm at hp0;clear hc;go_wp2_with fail;refine hp0.mono ?_;rintro e w1 ⟨rfl,hg⟩;go_wp2;exact⟨rfl,rfl,kA7 (hkk.start.grown) hg⟩
 | ok r =>
  obtain⟨x,n⟩:=r;show Calls _ _ _ _ (zAk w R ts en now (zB2 ts en chk ex (ts.length+1) ⟨2,z28,⟨#[]⟩,0,[x]⟩ n));generalize hres:zB2 ts en chk ex (ts.length+1) ⟨2,z28,⟨#[]⟩,0,[x]⟩ n=res;have HresL:=kA1 hres;clear hres;go_enter Tryz.func135,Tryz.ntmps135;go_wp2_with fail;refine hsk.mono ?_;rintro e wk ⟨rfl,hkk⟩;have hp0:=HP.out (now+1) wk kD4 (h0.took E hkk hnow);rw[hc] at hp0;unfold zAk at hp0;clear hc;have hzk:=hkk.blk (zA4 w zO) hne0;go_wp2_with fail;refine hp0.mono ?_;rintro e w1 ⟨hn1,hn2,v,rfl,hx,hk⟩;obtain⟨v5,A5,n5,c5,rfl,rfl,_,_⟩:=hx.cells;unfold exV;have hX0:=hk.rdr.lt;have hz1:=hk.blk hzk hne0;have hXw:w.heap.size<w1.heap.size:=zA5 hz1;have hwk:w.heap.size<wk.heap.size:=zA5 hzk;have g1:Gath W0 R B ts en w w1.heap.size (w1.alloc (.cells #[.int .i64 x.f0,.string x.f1.f0,.string x.f1.f1,.string x.f2,.int .i64 x.f3,.slice A5 n5 c5] 31)) x n (.slice A5 n5 c5) :=
   ⟨(((h0.took E hkk hnow).took E hk hn2).below ((kA3 _ _).alloc (kA2 _) _)),(hkk.start.trans hk).alloc _,zA4 _ _,(hx.old (fun k h1 h2=>⟨by simp[From] at h1;omega,kB8 h2⟩)).below ((kA3 _ _).alloc (kA2 _) _),
    (kA4 _ _ _ (zA5 hz1)).trans hz1⟩
  have hXR:w1.heap.size≠R:=kAs hk.rdr.lt;obtain⟨⟨p0,p1,p2,p3,p4,p5⟩,⟨y0,y1,y2,y3,y4,y5⟩,xl⟩:=zA6 g1.blk;go_wp2;clear g1 p0 p1 p2 p3 p4 p5 y0 y1 y2 y3 y4 y5 xl;have hx1:=((hx.old (S':=Sx w w1.heap.size) (fun k h1 h2=>⟨by simp[From] at h1;omega,kB8 h2⟩)).below ((kA3 _ w1).alloc (kA2 _) (.cells #[.int .i64 2,.string ⟨#[]⟩,.string ⟨#[]⟩,.string ⟨#[]⟩,.int .i64 0,.slice (some ⟨w1.heap.size+1,0,none⟩) 1 1] 31))).one kD8 ⟨2,z28,⟨#[]⟩,0,[x]⟩ rfl;simp only[kAw] at hx1;have hbA:=(((kA3 w1.heap.size w1).alloc (kA2 _) (.cells #[.int .i64 2,.string ⟨#[]⟩,.string ⟨#[]⟩,.string ⟨#[]⟩,.int .i64 0,.slice (some ⟨w1.heap.size+1,0,none⟩) 1 1] 31)).alloc kD6 (.cells #[.int .i64 x.f0,.string x.f1.f0,.string x.f1.f1,.string x.f2,.int .i64 x.f3,.slice A5 n5 c5] 31));have g1:Gath W0 R B ts en w w1.heap.size _ ⟨2,z28,⟨#[]⟩,0,[x]⟩ n (.slice (some ⟨w1.heap.size+1,0,none⟩) 1 1) :=
   ⟨((h0.took E hkk hnow).took E hk hn2).below hbA,(hkk.start.trans hk).below hbA,(kA4 _ _ _ kD6).trans (zA4 _ _),hx1,zAa hbA hz1⟩
  generalize w1.heap.size=X at *;generalize hW:World.alloc (World.alloc w1 _) _=W at *;clear hW hk hx hp0 h0 hkk hzk hz1 hX0 hx1 hbA;have hres:=HresL.out;clear HresL;go_loopg [] (ts.length+1) (fun k wr=>∃x n v5,m<n∧now<n∧n≤ts.length∧ts.length<n+k∧Gath W0 R B ts en w X wr x n v5∧Hid (zB2 ts en chk ex k x n=res))
  case atStart=>exact⟨⟨2,z28,⟨#[]⟩,0,[x]⟩,n,_,kD4,kD4,hn2,kD4,g1,hres⟩
  case round =>
   clear g1 hres hn1 hn2;obtain⟨x,n,v5,hmn,hnn,hnl,hfuel,G,Hres⟩:=hrel;obtain⟨_,A5,n5,c5,h5,rfl,_,_⟩:=G.val.cells;obtain rfl:=zCu h5
   cases gk with
   | zero=>omega
   | succ gk =>
   cases h1:sk ts en n ⟨#[43]⟩ with
   | true =>
    have hs:=zAE R ts n en ⟨#[43]⟩ wr G.st.rdr few h1;have hlt:=zAv h1
    cases hc:zAX ts en chk ex (n+1) with
    | error p =>
     have Hres':Hid (res=.error p):=by
      have:=Hres.out;unfold zB2 at this;rw[kAa h1,hc] at this;exact kA1 this.symm
     go_wp2_with fail;refine hs.mono ?_;rintro e w1 ⟨rfl,hk1⟩;have G1:=G.go E hRw hXw hk1 hlt;obtain⟨⟨p0,p1,p2,p3,p4,p5⟩,-,xl⟩:=zA6 G1.blk;have G1d:=G1.below ((kA3 _ w1).drew);have hp1:=HP.out (n+1) _ kD4 G1d.st;rw[hc] at hp1;unfold zAk at hp1;unfold zAm at hp1;clear hc;go_wp2_with fail;refine kB7 (S:=(fun w'=>w'.cell? ⟨X,0,none⟩=some (Value.int IntKind.i64 x.f0)∧w'.cell? ⟨X,1,none⟩=some (Value.string x.f1.f0)∧w'.cell? ⟨X,2,none⟩=some (Value.string x.f1.f1)∧w'.cell? ⟨X,3,none⟩=some (Value.string x.f2)∧w'.cell? ⟨X,4,none⟩=some (Value.int IntKind.i64 x.f3)∧w'.cell? ⟨X,5,none⟩=some (.slice A5 n5 c5))) kD5 (zA6 G1d.blk).1 (fun hHeld=>?_);refine kAx (i:=0) (v:=?v0c5) rfl kD5 kD5 kD5 (fun _ _ _ h=>h) (Or.inl ⟨kD9,?hy0c5⟩) kDb ?rest0c5
     case hy0c5=>(intro w hSw;(try dsimp only at hSw);go_simp;try (with_reducible rfl))
     try simp only[Act.put,kA0,List.set_cons_zero,List.set_cons_succ]
     refine kAx (i:=1) (v:=?v1c6) rfl kD5 kD5 kD5 (fun _ _ _ h=>h) (Or.inl ⟨kD9,?hy1c6⟩) kDb ?rest1c6
     case hy1c6=>(intro w hSw;(try dsimp only at hSw);go_simp;try (with_reducible rfl))
     try simp only[Act.put,kA0,List.set_cons_zero,List.set_cons_succ]
     refine kBO (rs:=[2]) kD5 kD6 ?_;refine kBF rfl (fun K hK=>?_) kBJ;go_simp;go_wp2_with (go_at_call 160;refine hp1.mono ?_;rintro e w2 ⟨rfl,hg2⟩);rw[Hres'.out];exact⟨rfl,rfl,kA7 G1d.took.grown hg2⟩
    | ok r =>
     obtain⟨y,n2⟩:=r;have Hres':Hid (zB2 ts en chk ex gk (twoX 3 x y) n2=res):=by
      have:=Hres.out;unfold zB2 at this;rw[kAa h1,hc] at this;exact kA1 this
     go_wp2_with fail;refine hs.mono ?_;rintro e w1 ⟨rfl,hk1⟩;have G1:=G.go E hRw hXw hk1 hlt;obtain⟨⟨p0,p1,p2,p3,p4,p5⟩,-,xl⟩:=zA6 G1.blk;have G1d:=G1.below ((kA3 _ w1).drew);have hp1:=HP.out (n+1) _ kD4 G1d.st;rw[hc] at hp1;unfold zAk at hp1;clear hc;go_wp2_with fail
     go_region_with ((first
      | (go_at_call 160;refine hp1.mono ?_;rintro e w2 ⟨hn1,hn2,vy,rfl,hy,hk2⟩;have G2:=G1d.go E hRw hXw hk2 hn2;have hw:=G1d.two 3 E hRw hXw hy hk2 hn2;obtain⟨⟨q0,q1,q2,q3,q4,q5⟩,-,lt2⟩:=zA6 G2.blk)
      | (go_at_call 161;refine hw.mono ?_;rintro e w3 ⟨u,A,N,C,rfl,rfl,G3,hu⟩;obtain⟨⟨r0,r1,r2,r3,r4,r5⟩,⟨f0,f1,f2,f3,f4,f5⟩,lt3⟩:=zA6 G3.blk;simp only[exV,twoX])))
     all_goals
      have G4:=G3.store E hRw hXw hu;go_wp2;go_roundg gk
      case measure=>omega
      case rel=>exact⟨_,n2,_,kD4,kD4,hn2,kD4,G4,Hres'⟩
   | false =>
    have hs:=zAT R ts n en ⟨#[43]⟩ wr G.st.rdr hnl h1
    cases h2:sk ts en n ⟨#[45]⟩ with
    | true =>
     have hlt:=zAv h2
     cases hc:zAX ts en chk ex (n+1) with
     | error p =>
      have Hres':Hid (res=.error p):=by
       have:=Hres.out;unfold zB2 at this;rw[kA9 kDj,kAa h2,hc] at this;exact kA1 this.symm
      go_wp2_with fail;refine hs.mono ?_;rintro e w0 ⟨rfl,hk0⟩;have G0:=G.go E hRw hXw hk0 hnl;have hs2:=zAE R ts n en ⟨#[45]⟩ w0 G0.st.rdr few h2;go_wp2_with fail;refine hs2.mono ?_;rintro e w1 ⟨rfl,hk1⟩;have G1:=G0.go E hRw hXw hk1 hlt;obtain⟨⟨p0,p1,p2,p3,p4,p5⟩,-,xl⟩:=zA6 G1.blk;have G1d:=G1.below ((kA3 _ w1).drew);have hp1:=HP.out (n+1) _ kD4 G1d.st;rw[hc] at hp1;unfold zAk at hp1;unfold zAm at hp1;clear hc;go_wp2_with fail;refine kB7 (S:=(fun w'=>w'.cell? ⟨X,0,none⟩=some (Value.int IntKind.i64 x.f0)∧w'.cell? ⟨X,1,none⟩=some (Value.string x.f1.f0)∧w'.cell? ⟨X,2,none⟩=some (Value.string x.f1.f1)∧w'.cell? ⟨X,3,none⟩=some (Value.string x.f2)∧w'.cell? ⟨X,4,none⟩=some (Value.int IntKind.i64 x.f3)∧w'.cell? ⟨X,5,none⟩=some (.slice A5 n5 c5))) kD5 (zA6 G1d.blk).1 (fun hHeld=>?_);refine kAx (i:=0) (v:=?v0c7) rfl kD5 kD5 kD5 (fun _ _ _ h=>h) (Or.inl ⟨kD9,?hy0c7⟩) kDb ?rest0c7
      case hy0c7=>(intro w hSw;(try dsimp only at hSw);go_simp;try (with_reducible rfl))
      try simp only[Act.put,kA0,List.set_cons_zero,List.set_cons_succ]
      refine kAx (i:=1) (v:=?v1c8) rfl kD5 kD5 kD5 (fun _ _ _ h=>h) (Or.inl ⟨kD9,?hy1c8⟩) kDb ?rest1c8
      case hy1c8=>(intro w hSw;(try dsimp only at hSw);go_simp;try (with_reducible rfl))
      try simp only[Act.put,kA0,List.set_cons_zero,List.set_cons_succ]
      refine kBO (rs:=[2]) kD5 kD6 ?_;refine kBF rfl (fun K hK=>?_) kBJ;go_simp;go_wp2_with (go_at_call 160;refine hp1.mono ?_;rintro e w2 ⟨rfl,hg2⟩);rw[Hres'.out];exact⟨rfl,rfl,kA7 G1d.took.grown hg2⟩
     | ok r =>
      obtain⟨y,n2⟩:=r;have Hres':Hid (zB2 ts en chk ex gk (twoX 4 x y) n2=res):=by
       have:=Hres.out;unfold zB2 at this;rw[kA9 kDj,kAa h2,hc] at this;exact kA1 this
      go_wp2_with fail;refine hs.mono ?_;rintro e w0 ⟨rfl,hk0⟩;have G0:=G.go E hRw hXw hk0 hnl;have hs2:=zAE R ts n en ⟨#[45]⟩ w0 G0.st.rdr few h2;go_wp2_with fail;refine hs2.mono ?_;rintro e w1 ⟨rfl,hk1⟩;have G1:=G0.go E hRw hXw hk1 hlt;obtain⟨⟨p0,p1,p2,p3,p4,p5⟩,-,xl⟩:=zA6 G1.blk;have G1d:=G1.below ((kA3 _ w1).drew);have hp1:=HP.out (n+1) _ kD4 G1d.st;rw[hc] at hp1;unfold zAk at hp1;clear hc;go_wp2_with fail
      go_region_with ((first
       | (go_at_call 160;refine hp1.mono ?_;rintro e w2 ⟨hn1,hn2,vy,rfl,hy,hk2⟩;have G2:=G1d.go E hRw hXw hk2 hn2;have hw:=G1d.two 4 E hRw hXw hy hk2 hn2;obtain⟨⟨q0,q1,q2,q3,q4,q5⟩,-,lt2⟩:=zA6 G2.blk)
       | (go_at_call 161;refine hw.mono ?_;rintro e w3 ⟨u,A,N,C,rfl,rfl,G3,hu⟩;obtain⟨⟨r0,r1,r2,r3,r4,r5⟩,⟨f0,f1,f2,f3,f4,f5⟩,lt3⟩:=zA6 G3.blk;simp only[exV,twoX])))
      all_goals
       have G4:=G3.store E hRw hXw hu;go_wp2;go_roundg gk
       case measure=>omega
       case rel=>exact⟨_,n2,_,kD4,kD4,hn2,kD4,G4,Hres'⟩
    | false =>
     have Hres':Hid (res=.ok (x,n)):=by
      have:=Hres.out;unfold zB2 at this;rw[kA9 kDj,kA9 kDB] at this;exact kA1 this.symm
     go_wp2_with fail;refine hs.mono ?_;rintro e w0 ⟨rfl,hk0⟩;have G0:=G.go E hRw hXw hk0 hnl;have hs2:=zAT R ts n en ⟨#[45]⟩ w0 G0.st.rdr hnl h2;go_wp2_with fail;refine hs2.mono ?_;rintro e w1 ⟨rfl,hk1⟩;have G1:=G0.go E hRw hXw hk1 hnl;obtain⟨⟨p0,p1,p2,p3,p4,p5⟩,-,xl⟩:=zA6 G1.blk;obtain⟨⟨q0,q1,q2,q3,q4,q5⟩,⟨f0,f1,f2,f3,f4,f5⟩,xl2⟩:=zA6 G1.res;go_wp2;rw[Hres'.out];refine kAi (zAg Tryz.results135 _ _ w.heap.size 31 _ (0,0) _ rfl (fin6 _ _ _ _ _ _ G1.res) Tryz.underlying31 rfl zB6) rfl ⟨hnn,hnl,_,rfl,?_,?_⟩
     ·exact (G1.val.set6 (fun k hk=>kAs hk.1) _ _ _ _ _ _).mono (fun k hk=>kAP hk.1)
     ·exact G1.took.set6 G1.res hne0 (kA2 _) _ _ _ _ _ _
theorem sums_walk (W0:World) (R B:Nat) (ts:List S47) (en:Nat) (chk:S28→Int) (ex:Nat→PR) (m:Nat) (E:Env W0 R B ts) (hp:Pars W0 R B ts en 160 (zAX ts en chk ex) m) :
  Pars W0 R B ts en 135 (zD2 ts en chk ex) m:=fun now w hm h=>by
 cases hs:sk ts en now ⟨#[45]⟩ with
 | true=>exact sums_neg W0 R B ts en chk ex m now w E h hm hp hs
 | false=>exact sums_pos W0 R B ts en chk ex m now w E h hm hp hs
def zBz (op:Int):TypeId:=if op=13∨op=12∨op=10∨op=11 then 150 else if op=3∨op=4∨op=5∨op=6 then 152 else if op=2 then 154 else if op=7∨op=9 then 155 else 156
theorem zDN (x:S31) (A:Option Addr) (n c:Nat) (w:World):Calls Tryz.prog 96 #[exV x (.slice A n c)] w fun e w'=>e=.returned (.iface (zBz x.f0) (exV x (.slice A n c)))∧Below w.heap.size w w':=by
 obtain⟨op,num,name,size,xs⟩:=x;unfold exV;simp only;by_cases h:op=13∨op=12∨op=10∨op=11∨op=3∨op=4∨op=5∨op=6∨op=2∨op=7∨op=9
 ·rcases h with rfl | rfl | rfl | rfl | rfl | rfl | rfl | rfl | rfl | rfl | rfl
  all_goals
   go_enter Tryz.func96,Tryz.ntmps96;go_wp2;go_ret;exact⟨rfl,(kA3 _ w).alloc (kA2 _) _⟩
 ·have e:zBz op=156:=by unfold zBz;rw[kA9 kD4,kA9 kD4,kA9 kD4,kA9 kD4]
  rw[e];have h2:=zAF (a:=op) (b:=2) kD4;have h3:=zAF (a:=op) (b:=3) kD4;have h4:=zAF (a:=op) (b:=4) kD4;have h5:=zAF (a:=op) (b:=5) kD4;have h6:=zAF (a:=op) (b:=6) kD4;have h7:=zAF (a:=op) (b:=7) kD4;have h9:=zAF (a:=op) (b:=9) kD4;have h10:=zAF (a:=op) (b:=10) kD4;have h11:=zAF (a:=op) (b:=11) kD4;have h12:=zAF (a:=op) (b:=12) kD4;have h13:=zAF (a:=op) (b:=13) kD4;clear e h;go_enter Tryz.func96,Tryz.ntmps96;go_wp2;go_ret;exact⟨rfl,(kA3 _ w).alloc (kA2 _) _⟩
def cat (xs:List ByteArray):ByteArray:=⟨(Lib.join (xs.map (·.data.toList)) []).toArray⟩
theorem cat_data (xs:List ByteArray):(cat xs).data.toList=(xs.map (·.data.toList)).flatten:=by
 show (Lib.join (xs.map (·.data.toList)) [])=_;unfold Lib.join;generalize xs.map (·.data.toList)=l
 induction l with
 | nil=>rfl
 | cons a l ih =>
  cases l with
  | nil=>simp[List.intercalate]
  | cons b l=>rw[List.intercalate_cons_cons];simp[ih]
theorem zAQ (bk:Nat) (xs:List ByteArray) (t:TypeId) (w:World) (hb:w.heap[bk]?=some (.cells (xs.map Value.string).toArray t (0,0))) (hN:xs.length≤140737488355328) (hlen:(cat xs).size≤140737488355328) :
  Calls Tryz.prog 98 #[.slice (some ⟨bk,0,none⟩) xs.length xs.length] w fun e w'=>e=.returned (.string (cat xs))∧Below w.heap.size w w':=by
 have hj:=Tryz.strings_Join bk 0 xs.length xs ⟨#[]⟩ w (fun j x hx=>by
  have h1:=zA1 hb j;rw[kAv];refine h1.trans ?_;simp[hx]) (zA5 hb) hN (kA2 _) hlen
 go_enter Tryz.func98,Tryz.ntmps98;go_wp2_with (go_at_call 137;refine hj.mono ?_;rintro e w1 ⟨rfl,hb1⟩);go_ret;exact⟨rfl,hb1⟩
abbrev zE:Value:=.agg #[.int .i64 0,.string ⟨#[]⟩,.string ⟨#[]⟩,.string ⟨#[]⟩,.int .i64 0,.slice none 0 0]
theorem zDD (v:Value) (w:World):(Instr.typeAssert (.iface 150 v) 147 150 true).run Tryz.prog w=.ok (.tuple #[v,.bool true]) w:=kD5
theorem zDC (v:Value) (w:World):(Instr.typeAssert (.iface 152 v) 147 150 true).run Tryz.prog w=.ok (.tuple #[zE,.bool false]) w:=kD5
theorem zEy (v:Value) (w:World):(Instr.typeAssert (.iface 152 v) 147 152 true).run Tryz.prog w=.ok (.tuple #[v,.bool true]) w:=kD5
theorem ta154_150 (v:Value) (w:World):(Instr.typeAssert (.iface 154 v) 147 150 true).run Tryz.prog w=.ok (.tuple #[zE,.bool false]) w:=kD5
theorem ta154_152 (v:Value) (w:World):(Instr.typeAssert (.iface 154 v) 147 152 true).run Tryz.prog w=.ok (.tuple #[zE,.bool false]) w:=kD5
theorem ta154_154 (v:Value) (w:World):(Instr.typeAssert (.iface 154 v) 147 154 true).run Tryz.prog w=.ok (.tuple #[v,.bool true]) w:=kD5
theorem zFC (v:Value) (w:World):(Instr.typeAssert (.iface 155 v) 147 150 true).run Tryz.prog w=.ok (.tuple #[zE,.bool false]) w:=kD5
theorem ta155_152 (v:Value) (w:World):(Instr.typeAssert (.iface 155 v) 147 152 true).run Tryz.prog w=.ok (.tuple #[zE,.bool false]) w:=kD5
theorem ta155_154 (v:Value) (w:World):(Instr.typeAssert (.iface 155 v) 147 154 true).run Tryz.prog w=.ok (.tuple #[zE,.bool false]) w:=kD5
theorem ta155_155 (v:Value) (w:World):(Instr.typeAssert (.iface 155 v) 147 155 true).run Tryz.prog w=.ok (.tuple #[v,.bool true]) w:=kD5
theorem zDB (v:Value) (w:World):(Instr.typeAssert (.iface 156 v) 147 150 true).run Tryz.prog w=.ok (.tuple #[zE,.bool false]) w:=kD5
theorem zEx (v:Value) (w:World):(Instr.typeAssert (.iface 156 v) 147 152 true).run Tryz.prog w=.ok (.tuple #[zE,.bool false]) w:=kD5
theorem zEw (v:Value) (w:World):(Instr.typeAssert (.iface 156 v) 147 154 true).run Tryz.prog w=.ok (.tuple #[zE,.bool false]) w:=kD5
theorem zEv (v:Value) (w:World):(Instr.typeAssert (.iface 156 v) 147 155 true).run Tryz.prog w=.ok (.tuple #[zE,.bool false]) w:=kD5
theorem zEu (v:Value) (w:World):(Instr.typeAssert (.iface 156 v) 147 156 true).run Tryz.prog w=.ok (.tuple #[v,.bool true]) w:=kD5
open Go.Lib in
theorem tab_below {w w':World} {name:String} {k:IntKind} {zs:List Int} (h:TabIs Tryz.prog w name k zs) (hb:Below w.heap.size w w'):TabIs Tryz.prog w' name k zs:=by
 unfold TabIs World.var? at *
 cases hg:Tryz.prog.globalNamed name with
 | none=>simp[hg] at h
 | some g =>
  simp only[hg,Option.bind_some] at h⊢;have hlt:g<w.heap.size:=by
   rcases kBU g w.heap.size with h' | h'
   ·exact h'
   ·rw[kCb h'] at h;simp at h
  rw[hb.block g hlt];exact h
theorem below_growN (w:World) (k:Nat) (os:Array Obj):Below w.heap.size w (Go.Sort.grow (w.drewN k) os):=by
 have h1:Below w.heap.size w (w.drewN k):=zA3 (kA3 _ w) k;have h2:Below w.heap.size (w.drewN k) (Go.Sort.grow (w.drewN k) os):=⟨rfl,rfl,rfl,by rw[Go.Sort.size_grow];omega,fun j hj=>Go.Sort.heap_grow_old _ _ (by have:=h1.size;omega)⟩;exact h1.trans h2
def Tab (w : World) : Prop := Lib.TabIs Tryz.prog w "internal/strconv.uint64pow10" .u64 Lib.pow10Tab
theorem Tab.below {w w':World} (h:Tab w) (hb:Below w.heap.size w w'):Tab w':=tab_below h hb
theorem zF5 (n:Int) (h0:-9223372036854775808≤n) (h1:n≤9223372036854775807) (w:World) (h:Tab w) :
  Calls Tryz.prog 100 #[.int .i64 n] w fun e w'=>e=.returned (.string ⟨(Lib.itoa n).toArray⟩)∧Below w.heap.size w w' :=
 (Tryz.strconv_Itoa n h0 h1 w h).mono fun _ _ ⟨he,k,os,hw⟩=>⟨he,by subst hw;exact below_growN _ _ _⟩
theorem m150 (v : Value) (w : World) : (method 467 150 v "metewand/read.level").run Tryz.prog w = .ok (309, v) w := by kernel_rfl
theorem m152 (v : Value) (w : World) : (method 467 152 v "metewand/read.level").run Tryz.prog w = .ok (99, v) w := by kernel_rfl
theorem m154 (v : Value) (w : World) : (method 467 154 v "metewand/read.level").run Tryz.prog w = .ok (310, v) w := by kernel_rfl
theorem m155 (v : Value) (w : World) : (method 467 155 v "metewand/read.level").run Tryz.prog w = .ok (311, v) w := by kernel_rfl
theorem m156 (v : Value) (w : World) : (method 467 156 v "metewand/read.level").run Tryz.prog w = .ok (312, v) w := by kernel_rfl
theorem lev150 (a b c d e f:Value) (w:World):Calls Tryz.prog 309 #[.agg #[a,b,c,d,e,f]] w fun en w'=>en=.returned (.int .i64 0)∧Below w.heap.size w w':=by
 go_enter Tryz.func309,Tryz.ntmps309;go_wp2;go_ret;exact⟨rfl,(kA3 _ w).alloc (kA2 _) _⟩
theorem lev154 (a b c d e f:Value) (w:World):Calls Tryz.prog 310 #[.agg #[a,b,c,d,e,f]] w fun en w'=>en=.returned (.int .i64 1)∧Below w.heap.size w w':=by
 go_enter Tryz.func310,Tryz.ntmps310;go_wp2;go_ret;exact⟨rfl,(kA3 _ w).alloc (kA2 _) _⟩
theorem lev156 (a b c d e f:Value) (w:World):Calls Tryz.prog 312 #[.agg #[a,b,c,d,e,f]] w fun en w'=>en=.returned (.int .i64 5)∧Below w.heap.size w w':=by
 go_enter Tryz.func312,Tryz.ntmps312;go_wp2;go_ret;exact⟨rfl,(kA3 _ w).alloc (kA2 _) _⟩
theorem lev155 (op:Int) (hop:op=7∨op=9) (b c d e f:Value) (w:World):Calls Tryz.prog 311 #[.agg #[.int .i64 op,b,c,d,e,f]] w fun en w'=>en=.returned (.int .i64 (if op=7 then 3 else 4))∧Below w.heap.size w w':=by
 rcases hop with rfl | rfl
 all_goals
  go_enter Tryz.func311,Tryz.ntmps311;go_wp2;go_ret;exact⟨rfl,(kA3 _ w).alloc (kA2 _) _⟩
theorem lev152 (op:Int) (hop:op=3∨op=4∨op=5∨op=6) (b c d e f:Value) (w:World):Calls Tryz.prog 99 #[.agg #[.int .i64 op,b,c,d,e,f]] w fun en w'=>en=.returned (.int .i64 (if op=3∨op=4 then 1 else 2))∧Below w.heap.size w w':=by
 rcases hop with rfl | rfl | rfl | rfl
 all_goals
  go_enter Tryz.func99,Tryz.ntmps99;go_wp2;go_ret;exact⟨rfl,(kA3 _ w).alloc (kA2 _) _⟩
theorem look_other_num (x:S31) (v5:Value) (w:World) (A:Option Addr) (c:Nat) (hv5:v5=.slice A x.f4.length c) (h0:0≤x.f0) (h1:x.f0≤14) (hlo:zBb x.f0≤x.f4.length) (hhi:(x.f4.length:Int)≤zBd x.f0)
  (hop:x.f0≠0) (hnum:x.f1≠z28):Calls Tryz.prog 102 #[exV x v5] w (zE9 1 w):=by
 obtain⟨op,num,name,size,xs⟩:=x;subst hv5;simp only at *;have hin:=zBE op 0 14;rw[kA8 h0,kA8 h1] at hin;have l1:decide ((xs.length:Int)<zBb op)=false:=kAc kD4;have l2:decide (zBd op<(xs.length:Int))=false:=kAc kD4;have hz:=zEe op;have E0:=zD9;have E9:=zD8;have E99:=zCi;have hA:=zAJ op;have hZ:=zBo op;have hin2:=zBE size (zAK op) (zAL op);obtain⟨nu,de⟩:=num;have b0:=zAF hop;have E28:=eq28 nu de ⟨#[]⟩ ⟨#[]⟩;have hne:(nu.toList==(⟨#[]⟩:ByteArray).toList&&de.toList==(⟨#[]⟩:ByteArray).toList)=false:=by
  rw[nil_eq,nil_eq,kAT];by_cases h:nu=⟨#[]⟩
  ·refine .inr (kAc (fun h2=>hnum ?_));rw[h,h2];rfl
  ·exact .inl (kAc h)
 rw[hne] at E28;generalize zBb op=aL at *;generalize zBd op=aH at *;generalize zAK op=sL at *;generalize zAL op=sH at *;clear h0 h1 hlo hhi hop hnum hne hz hZ hin2 E0 E9 E99;unfold exV;simp only;go_enter Tryz.func102,Tryz.ntmps102;go_wp2_with (first
  | (go_at_call 104;(with_reducible refine (hin _).mono ?_);rintro e wq ⟨rfl,hq⟩;subst wq)
  | (go_at_call 67;(with_reducible refine (zAs _ _).mono ?_);rintro e wq ⟨rfl,hq⟩;subst wq)
  | (go_at_call 67;(with_reducible refine (zAf _ _).mono ?_);rintro e wq ⟨rfl,hq⟩;subst wq))
 refine (hA _).mono ?_;rintro e w1 ⟨rfl,hb1⟩;have hx1:=zAa hb1 (zA4 w (.cells #[.int .i64 op,.string nu,.string de,.string name,.int .i64 size,.slice A xs.length c] 31));obtain⟨⟨q0,q1,q2,q3,q4,q5⟩,_,xl⟩:=zA6 hx1;have hbw:Below w.heap.size w w1:=((kA3 _ w).alloc (kA2 _) _).trans (hb1.mono kD6);have hbw':=hbw.alloc hbw.size (.cells #[.int .i64 aL,.int .i64 aH] 198);have HX:=kA1 hx1;clear hx1;go_wp2_with (first
  | (go_at_call 104;(with_reducible refine (hin _).mono ?_);rintro e wq ⟨rfl,hq⟩;subst wq)
  | (go_at_call 67;(with_reducible refine (zAs _ _).mono ?_);rintro e wq ⟨rfl,hq⟩;subst wq)
  | (go_at_call 67;(with_reducible refine (zAf _ _).mono ?_);rintro e wq ⟨rfl,hq⟩;subst wq))
 exact⟨rfl,hbw',.inr ⟨kD4,rfl⟩⟩
theorem look_other_bad (x:S31) (v5:Value) (w:World) (A:Option Addr) (c:Nat) (hv5:v5=.slice A x.f4.length c) (h0:0≤x.f0) (h1:x.f0≤14) (hlo:zBb x.f0≤x.f4.length) (hhi:(x.f4.length:Int)≤zBd x.f0)
  (hop:x.f0≠0∧x.f0≠1∧x.f0≠10∧x.f0≠11∧x.f0≠13∧x.f0≠14) (hnum:x.f1=z28) (hname:x.f2≠⟨#[]⟩):Calls Tryz.prog 102 #[exV x v5] w (zE9 4 w):=by
 obtain⟨op,num,name,size,xs⟩:=x;subst hv5;simp only at *;have hin:=zBE op 0 14;rw[kA8 h0,kA8 h1] at hin;have l1:decide ((xs.length:Int)<zBb op)=false:=kAc kD4;have l2:decide (zBd op<(xs.length:Int))=false:=kAc kD4;have hz:=zEe op;have E0:=zD9;have E9:=zD8;have E99:=zCi;have hA:=zAJ op;have hZ:=zBo op;have hin2:=zBE size (zAK op) (zAL op);subst hnum;obtain⟨n0,n1,n10,n11,n13,n14⟩:=hop;have b0:=zAF n0;have b1:=zAF n1;have b10:=zAF n10;have b11:=zAF n11;have b13:=zAF n13;have b14:=zAF n14;have hsome:name.toList.isEmpty=false:=by
  cases h:name.toList with
  | nil=>exact absurd (str_nil h) hname
  | cons _ _=>rfl
 generalize zBb op=aL at *;generalize zBd op=aH at *;generalize zAK op=sL at *;generalize zAL op=sH at *;clear h0 h1 hlo hhi n0 n1 n10 n11 n13 n14 hname hz hZ hin2 E0 E9 E99;unfold exV z28;simp only;go_enter Tryz.func102,Tryz.ntmps102;go_wp2_with (first
  | (go_at_call 104;(with_reducible refine (hin _).mono ?_);rintro e wq ⟨rfl,hq⟩;subst wq)
  | (go_at_call 67;(with_reducible refine (zAs _ _).mono ?_);rintro e wq ⟨rfl,hq⟩;subst wq)
  | (go_at_call 67;(with_reducible refine (zAf _ _).mono ?_);rintro e wq ⟨rfl,hq⟩;subst wq))
 refine (hA _).mono ?_;rintro e w1 ⟨rfl,hb1⟩;have hx1:=zAa hb1 (zA4 w (.cells #[.int .i64 op,.string ⟨#[]⟩,.string ⟨#[]⟩,.string name,.int .i64 size,.slice A xs.length c] 31));obtain⟨⟨q0,q1,q2,q3,q4,q5⟩,_,xl⟩:=zA6 hx1;have hbw:Below w.heap.size w w1:=((kA3 _ w).alloc (kA2 _) _).trans (hb1.mono kD6);have hbw':=hbw.alloc hbw.size (.cells #[.int .i64 aL,.int .i64 aH] 198);have HX:=kA1 hx1;clear hx1;go_wp2_with (first
  | (go_at_call 104;(with_reducible refine (hin _).mono ?_);rintro e wq ⟨rfl,hq⟩;subst wq)
  | (go_at_call 67;(with_reducible refine (zAs _ _).mono ?_);rintro e wq ⟨rfl,hq⟩;subst wq)
  | (go_at_call 67;(with_reducible refine (zAf _ _).mono ?_);rintro e wq ⟨rfl,hq⟩;subst wq))
 exact⟨rfl,hbw',.inr ⟨kD4,rfl⟩⟩
theorem zFY (x:S31) (v5:Value) (w:World) (A:Option Addr) (c:Nat) (hv5:v5=.slice A x.f4.length c) (h0:0≤x.f0) (h1:x.f0≤14) (hlo:zBb x.f0≤x.f4.length) (hhi:(x.f4.length:Int)≤zBd x.f0)
  (hop:x.f0≠0∧x.f0≠1∧x.f0≠10∧x.f0≠11∧x.f0≠13∧x.f0≠14) (hnum:x.f1=z28) (hname:x.f2=⟨#[]⟩) (n:Int) (hN:Hid (n=if x.f3<zAK x.f0∨zAL x.f0<x.f3 then 2 else 0)):Calls Tryz.prog 102 #[exV x v5] w (zE9 n w):=by
 obtain⟨op,num,name,size,xs⟩:=x;subst hv5;simp only at *;have hin:=zBE op 0 14;rw[kA8 h0,kA8 h1] at hin;have l1:decide ((xs.length:Int)<zBb op)=false:=kAc kD4;have l2:decide (zBd op<(xs.length:Int))=false:=kAc kD4;have hz:=zEe op;have E0:=zD9;have E9:=zD8;have E99:=zCi;have hA:=zAJ op;have hZ:=zBo op;have hin2:=zBE size (zAK op) (zAL op);subst hnum hname;obtain⟨n0,n1,n10,n11,n13,n14⟩:=hop;have b0:=zAF n0;have b1:=zAF n1;have b10:=zAF n10;have b11:=zAF n11;have b13:=zAF n13;have b14:=zAF n14;generalize zBb op=aL at *;generalize zBd op=aH at *;generalize zAK op=sL at *;generalize zAL op=sH at *;clear h0 h1 hlo hhi n0 n1 n10 n11 n13 n14;unfold exV z28;simp only;go_enter Tryz.func102,Tryz.ntmps102;go_wp2_with (first
  | (go_at_call 104;(with_reducible refine (hin _).mono ?_);rintro e wq ⟨rfl,hq⟩;subst wq)
  | (go_at_call 67;(with_reducible refine (zAs _ _).mono ?_);rintro e wq ⟨rfl,hq⟩;subst wq)
  | (go_at_call 67;(with_reducible refine (zAf _ _).mono ?_);rintro e wq ⟨rfl,hq⟩;subst wq))
 refine (hA _).mono ?_;rintro e w1 ⟨rfl,hb1⟩;have hx1:=zAa hb1 (zA4 w (.cells #[.int .i64 op,.string ⟨#[]⟩,.string ⟨#[]⟩,.string ⟨#[]⟩,.int .i64 size,.slice A xs.length c] 31));obtain⟨⟨q0,q1,q2,q3,q4,q5⟩,_,xl⟩:=zA6 hx1;have hbw:Below w.heap.size w w1:=((kA3 _ w).alloc (kA2 _) _).trans (hb1.mono kD6);have hbw':=hbw.alloc hbw.size (.cells #[.int .i64 aL,.int .i64 aH] 198);have HX:=kA1 hx1;clear hx1;have HX1:=HX;go_wp2_with (first
  | (go_at_call 104;(with_reducible refine (hin _).mono ?_);rintro e wq ⟨rfl,hq⟩;subst wq)
  | (go_at_call 67;(with_reducible refine (zAs _ _).mono ?_);rintro e wq ⟨rfl,hq⟩;subst wq)
  | (go_at_call 67;(with_reducible refine (zAf _ _).mono ?_);rintro e wq ⟨rfl,hq⟩;subst wq))
 have HXa:=kA1 ((kA4 w1 (.cells #[.int .i64 aL,.int .i64 aH] 198) _ xl).trans HX.out);have HYa:=kA1 (zA4 w1 (.cells #[.int .i64 aL,.int .i64 aH] 198));have hbwa:=hbw';clear HX1;refine (hZ _).mono ?_;rintro e w2 ⟨rfl,hb2⟩;have hx2:=zAa hb2 HXa.out;have hy2:=zAa hb2 HYa.out;have hbw2:=hbwa.trans (hb2.mono hbwa.size);have hw1:=hbw.size;obtain⟨⟨p0,p1,p2,p3,p4,p5⟩,_,xl2⟩:=zA6 hx2;have y0:=zA1 hy2 0;have y1:=zA1 hy2 1;have z0:=zA2 hy2 0;have z1:=zA2 hy2 1;have yl:=zA5 hy2;have hneq:=kB8 xl;clear hx2 hy2 HX hb1 hb2;by_cases hsz:size<sL∨sH<size
 ·have hn:n=2:=by rw[hN.out,kAa hsz]
  have hsb:(decide (sL≤size)&&decide (size≤sH))=false:=by
   rw[kAT];rcases hsz with h | h
   ·exact .inl (kAc kD4)
   ·exact .inr (kAc kD4)
  rw[hsb] at hin2;subst hn;clear hsb;rcases hz with⟨rfl,rfl⟩ | ⟨rfl,rfl⟩ | ⟨rfl,rfl⟩
  ·have hs:(size==0)=false:=zAF kD4;have hs':(size != 0)=true:=by rw[bne,hs];rfl
   clear hsz;go_wp2_with (first
    | (go_at_call 104;(with_reducible refine (hin2 _).mono ?_);rintro e wq ⟨rfl,hq⟩;subst wq)
    | (go_at_call 67;(with_reducible refine (zAs _ _).mono ?_);rintro e wq ⟨rfl,hq⟩;subst wq)
    | (go_at_call 67;(with_reducible refine (zAf _ _).mono ?_);rintro e wq ⟨rfl,hq⟩;subst wq))
   exact⟨rfl,(hbw2.setCell (p:=⟨w1.heap.size,0,none⟩) kD8 _).setCell (p:=⟨w1.heap.size,1,none⟩) kD8 _,.inr ⟨kD4,rfl⟩⟩
  all_goals
   clear hsz;go_wp2_with (first
    | (go_at_call 104;(with_reducible refine (hin2 _).mono ?_);rintro e wq ⟨rfl,hq⟩;subst wq)
    | (go_at_call 67;(with_reducible refine (zAs _ _).mono ?_);rintro e wq ⟨rfl,hq⟩;subst wq)
    | (go_at_call 67;(with_reducible refine (zAf _ _).mono ?_);rintro e wq ⟨rfl,hq⟩;subst wq))
   exact⟨rfl,(hbw2.setCell (p:=⟨w1.heap.size,0,none⟩) kD8 _).setCell (p:=⟨w1.heap.size,1,none⟩) kD8 _,.inr ⟨kD4,rfl⟩⟩
 ·have hn:n=0:=by rw[hN.out,kA9 hsz]
  rw[kA8 (show sL≤size by omega),kA8 (show size≤sH by omega)] at hin2;subst hn;rcases hz with⟨rfl,rfl⟩ | ⟨rfl,rfl⟩ | ⟨rfl,rfl⟩
  ·have hs:(size==0)=true:=by rw[kAA];omega
   have hs':(size != 0)=false:=by rw[bne,hs];rfl
   clear hsz;go_wp2_with (first
    | (go_at_call 104;(with_reducible refine (hin2 _).mono ?_);rintro e wq ⟨rfl,hq⟩;subst wq)
    | (go_at_call 67;(with_reducible refine (zAs _ _).mono ?_);rintro e wq ⟨rfl,hq⟩;subst wq)
    | (go_at_call 67;(with_reducible refine (zAf _ _).mono ?_);rintro e wq ⟨rfl,hq⟩;subst wq))
   exact kBf (kB4 rfl _ _ _) rfl ⟨(hbw2.setCell (p:=⟨w1.heap.size,0,none⟩) kD8 _).setCell (p:=⟨w1.heap.size,1,none⟩) kD8 _,.inl ⟨rfl,rfl⟩⟩
  all_goals
   clear hsz;go_wp2_with (first
    | (go_at_call 104;(with_reducible refine (hin2 _).mono ?_);rintro e wq ⟨rfl,hq⟩;subst wq)
    | (go_at_call 67;(with_reducible refine (zAs _ _).mono ?_);rintro e wq ⟨rfl,hq⟩;subst wq)
    | (go_at_call 67;(with_reducible refine (zAf _ _).mono ?_);rintro e wq ⟨rfl,hq⟩;subst wq))
   exact kBf (kB4 rfl _ _ _) rfl ⟨(hbw2.setCell (p:=⟨w1.heap.size,0,none⟩) kD8 _).setCell (p:=⟨w1.heap.size,1,none⟩) kD8 _,.inl ⟨rfl,rfl⟩⟩
theorem look_named_bad (x:S31) (v5:Value) (w:World) (A:Option Addr) (c:Nat) (hv5:v5=.slice A x.f4.length c) (h0:0≤x.f0) (h1:x.f0≤14) (hlo:zBb x.f0≤x.f4.length) (hhi:(x.f4.length:Int)≤zBd x.f0)
  (hop:x.f0=1∨x.f0=10∨x.f0=11∨x.f0=13∨x.f0=14) (hnum:x.f1=z28) (hsz1:x.f2.size≤9223372036854775807) (hname:zBQ x.f2=false):Calls Tryz.prog 102 #[exV x v5] w (zE9 4 w):=by
 obtain⟨op,num,name,size,xs⟩:=x;subst hv5;simp only at *;have hin:=zBE op 0 14;rw[kA8 h0,kA8 h1] at hin;have l1:decide ((xs.length:Int)<zBb op)=false:=kAc kD4;have l2:decide (zBd op<(xs.length:Int))=false:=kAc kD4;have hz:=zEe op;have E0:=zD9;have E9:=zD8;have E99:=zCi;have hA:=zAJ op;have hZ:=zBo op;have hin2:=zBE size (zAK op) (zAL op);subst hnum;have hN:=fun w=>name_any name w hsz1
 rw[hname] at hN;generalize zBb op=aL at *;generalize zBd op=aH at *;generalize zAK op=sL at *;generalize zAL op=sH at *;clear h0 h1 hlo hhi hz hZ hin2 E0 E9 E99 hname;unfold exV z28;simp only;rcases hop with rfl | rfl | rfl | rfl | rfl
 all_goals
  go_enter Tryz.func102,Tryz.ntmps102;go_wp2_with (first
   | (go_at_call 104;(with_reducible refine (hin _).mono ?_);rintro e wq ⟨rfl,hq⟩;subst wq)
   | (go_at_call 67;(with_reducible refine (zAs _ _).mono ?_);rintro e wq ⟨rfl,hq⟩;subst wq)
   | (go_at_call 67;(with_reducible refine (zAf _ _).mono ?_);rintro e wq ⟨rfl,hq⟩;subst wq))
  refine (hA _).mono ?_;rintro e w1 ⟨rfl,hb1⟩;have hx1:=zAa hb1 (zA4 w (.cells #[.int .i64 _,.string ⟨#[]⟩,.string ⟨#[]⟩,.string name,.int .i64 size,.slice A xs.length c] 31));obtain⟨⟨q0,q1,q2,q3,q4,q5⟩,_,xl⟩:=zA6 hx1;have hbw:Below w.heap.size w w1:=((kA3 _ w).alloc (kA2 _) _).trans (hb1.mono kD6);have hbw':=hbw.alloc hbw.size (.cells #[.int .i64 aL,.int .i64 aH] 198);have HX:=kA1 hx1;clear hx1;go_wp2_with (first
  | (go_at_call 104;(with_reducible refine (hin _).mono ?_);rintro e wq ⟨rfl,hq⟩;subst wq)
  | (go_at_call 67;(with_reducible refine (zAs _ _).mono ?_);rintro e wq ⟨rfl,hq⟩;subst wq)
  | (go_at_call 67;(with_reducible refine (zAf _ _).mono ?_);rintro e wq ⟨rfl,hq⟩;subst wq))
  refine (hN _).mono ?_;rintro e w4 ⟨rfl,hb4⟩;have hbw4:=hbw'.trans (hb4.mono hbw'.size);go_wp2_with (first
  | (go_at_call 104;(with_reducible refine (hin _).mono ?_);rintro e wq ⟨rfl,hq⟩;subst wq)
  | (go_at_call 67;(with_reducible refine (zAs _ _).mono ?_);rintro e wq ⟨rfl,hq⟩;subst wq)
  | (go_at_call 67;(with_reducible refine (zAf _ _).mono ?_);rintro e wq ⟨rfl,hq⟩;subst wq))
  exact⟨rfl,hbw4,.inr ⟨kD4,rfl⟩⟩
theorem zFZ (x:S31) (v5:Value) (w:World) (A:Option Addr) (c:Nat) (hv5:v5=.slice A x.f4.length c) (h0:0≤x.f0) (h1:x.f0≤14) (hlo:zBb x.f0≤x.f4.length) (hhi:(x.f4.length:Int)≤zBd x.f0)
  (hop:x.f0=1∨x.f0=10∨x.f0=11∨x.f0=13∨x.f0=14) (hnum:x.f1=z28) (hsz1:x.f2.size≤9223372036854775807) (hname:zBQ x.f2=true) (n:Int) (hN:Hid (n=if x.f3<zAK x.f0∨zAL x.f0<x.f3 then 2 else 0)):Calls Tryz.prog 102 #[exV x v5] w (zE9 n w):=by
 obtain⟨op,num,name,size,xs⟩:=x;subst hv5;simp only at *;have hin:=zBE op 0 14;rw[kA8 h0,kA8 h1] at hin;have l1:decide ((xs.length:Int)<zBb op)=false:=kAc kD4;have l2:decide (zBd op<(xs.length:Int))=false:=kAc kD4;have hz:=zEe op;have E0:=zD9;have E9:=zD8;have E99:=zCi;have hA:=zAJ op;have hZ:=zBo op;have hin2:=zBE size (zAK op) (zAL op);subst hnum;have hNm:=fun w=>name_any name w hsz1
 rw[hname] at hNm;generalize zBb op=aL at *;generalize zBd op=aH at *;generalize zAK op=sL at *;generalize zAL op=sH at *;clear h0 h1 hlo hhi hname;unfold exV z28;simp only;rcases hop with rfl | rfl | rfl | rfl | rfl
 all_goals
  go_enter Tryz.func102,Tryz.ntmps102;go_wp2_with (first
   | (go_at_call 104;(with_reducible refine (hin _).mono ?_);rintro e wq ⟨rfl,hq⟩;subst wq)
   | (go_at_call 67;(with_reducible refine (zAs _ _).mono ?_);rintro e wq ⟨rfl,hq⟩;subst wq)
   | (go_at_call 67;(with_reducible refine (zAf _ _).mono ?_);rintro e wq ⟨rfl,hq⟩;subst wq))
  refine (hA _).mono ?_;rintro e w1 ⟨rfl,hb1⟩;have hx1:=zAa hb1 (zA4 w (.cells #[.int .i64 _,.string ⟨#[]⟩,.string ⟨#[]⟩,.string name,.int .i64 size,.slice A xs.length c] 31));obtain⟨⟨q0,q1,q2,q3,q4,q5⟩,_,xl⟩:=zA6 hx1;have hbw:Below w.heap.size w w1:=((kA3 _ w).alloc (kA2 _) _).trans (hb1.mono kD6);have hbw':=hbw.alloc hbw.size (.cells #[.int .i64 aL,.int .i64 aH] 198);have HX:=kA1 hx1;clear hx1;go_wp2_with (first
  | (go_at_call 104;(with_reducible refine (hin _).mono ?_);rintro e wq ⟨rfl,hq⟩;subst wq)
  | (go_at_call 67;(with_reducible refine (zAs _ _).mono ?_);rintro e wq ⟨rfl,hq⟩;subst wq)
  | (go_at_call 67;(with_reducible refine (zAf _ _).mono ?_);rintro e wq ⟨rfl,hq⟩;subst wq))
  refine (hNm _).mono ?_;rintro e w4 ⟨rfl,hb4⟩;have HXa:=kA1 (zAa hb4 ((kA4 w1 (.cells #[.int .i64 aL,.int .i64 aH] 198) _ xl).trans HX.out));have HYa:=kA1 (zAa hb4 (zA4 w1 (.cells #[.int .i64 aL,.int .i64 aH] 198)));have hbwa:=hbw'.trans (hb4.mono hbw'.size);obtain⟨⟨r0,r1,r2,r3,r4,r5⟩,_,xl4⟩:=zA6 HXa.out;go_wp2_with (first
  | (go_at_call 104;(with_reducible refine (hin _).mono ?_);rintro e wq ⟨rfl,hq⟩;subst wq)
  | (go_at_call 67;(with_reducible refine (zAs _ _).mono ?_);rintro e wq ⟨rfl,hq⟩;subst wq)
  | (go_at_call 67;(with_reducible refine (zAf _ _).mono ?_);rintro e wq ⟨rfl,hq⟩;subst wq))
  refine (hZ _).mono ?_;rintro e w2 ⟨rfl,hb2⟩;have hx2:=zAa hb2 HXa.out;have hy2:=zAa hb2 HYa.out;have hbw2:=hbwa.trans (hb2.mono hbwa.size);have hw1:=hbw.size;obtain⟨⟨p0,p1,p2,p3,p4,p5⟩,_,xl2⟩:=zA6 hx2;have y0:=zA1 hy2 0;have y1:=zA1 hy2 1;have z0:=zA2 hy2 0;have z1:=zA2 hy2 1;have yl:=zA5 hy2;have hneq:=kB8 xl;clear hx2 hy2 HX hb1 hb2 hb4 r0 r1 r2 r3 r4 r5;by_cases hsz:size<sL∨sH<size
  ·have hn:n=2:=by rw[hN.out,kAa hsz]
   have hsb:(decide (sL≤size)&&decide (size≤sH))=false:=by
    rw[kAT];rcases hsz with h | h
    ·exact .inl (kAc kD4)
    ·exact .inr (kAc kD4)
   rw[hsb] at hin2;subst hn;clear hsb;rcases hz with⟨rfl,rfl⟩ | ⟨rfl,rfl⟩ | ⟨rfl,rfl⟩
   ·have hs:(size==0)=false:=zAF kD4;have hs':(size != 0)=true:=by rw[bne,hs];rfl
    clear hsz;go_wp2_with (first
     | (go_at_call 104;(with_reducible refine (hin2 _).mono ?_);rintro e wq ⟨rfl,hq⟩;subst wq)
     | (go_at_call 67;(with_reducible refine (zAs _ _).mono ?_);rintro e wq ⟨rfl,hq⟩;subst wq)
     | (go_at_call 67;(with_reducible refine (zAf _ _).mono ?_);rintro e wq ⟨rfl,hq⟩;subst wq))
    exact⟨rfl,(hbw2.setCell (p:=⟨w1.heap.size,0,none⟩) kD8 _).setCell (p:=⟨w1.heap.size,1,none⟩) kD8 _,.inr ⟨kD4,rfl⟩⟩
   all_goals
    clear hsz;go_wp2_with (first
     | (go_at_call 104;(with_reducible refine (hin2 _).mono ?_);rintro e wq ⟨rfl,hq⟩;subst wq)
     | (go_at_call 67;(with_reducible refine (zAs _ _).mono ?_);rintro e wq ⟨rfl,hq⟩;subst wq)
     | (go_at_call 67;(with_reducible refine (zAf _ _).mono ?_);rintro e wq ⟨rfl,hq⟩;subst wq))
    exact⟨rfl,(hbw2.setCell (p:=⟨w1.heap.size,0,none⟩) kD8 _).setCell (p:=⟨w1.heap.size,1,none⟩) kD8 _,.inr ⟨kD4,rfl⟩⟩
  ·have hn:n=0:=by rw[hN.out,kA9 hsz]
   rw[kA8 (show sL≤size by omega),kA8 (show size≤sH by omega)] at hin2;subst hn;rcases hz with⟨rfl,rfl⟩ | ⟨rfl,rfl⟩ | ⟨rfl,rfl⟩
   ·have hs:(size==0)=true:=by rw[kAA];omega
    have hs':(size != 0)=false:=by rw[bne,hs];rfl
    clear hsz;go_wp2_with (first
     | (go_at_call 104;(with_reducible refine (hin2 _).mono ?_);rintro e wq ⟨rfl,hq⟩;subst wq)
     | (go_at_call 67;(with_reducible refine (zAs _ _).mono ?_);rintro e wq ⟨rfl,hq⟩;subst wq)
     | (go_at_call 67;(with_reducible refine (zAf _ _).mono ?_);rintro e wq ⟨rfl,hq⟩;subst wq))
    exact kBf (kB4 rfl _ _ _) rfl ⟨(hbw2.setCell (p:=⟨w1.heap.size,0,none⟩) kD8 _).setCell (p:=⟨w1.heap.size,1,none⟩) kD8 _,.inl ⟨rfl,rfl⟩⟩
   all_goals
    clear hsz;go_wp2_with (first
     | (go_at_call 104;(with_reducible refine (hin2 _).mono ?_);rintro e wq ⟨rfl,hq⟩;subst wq)
     | (go_at_call 67;(with_reducible refine (zAs _ _).mono ?_);rintro e wq ⟨rfl,hq⟩;subst wq)
     | (go_at_call 67;(with_reducible refine (zAf _ _).mono ?_);rintro e wq ⟨rfl,hq⟩;subst wq))
    exact kBf (kB4 rfl _ _ _) rfl ⟨(hbw2.setCell (p:=⟨w1.heap.size,0,none⟩) kD8 _).setCell (p:=⟨w1.heap.size,1,none⟩) kD8 _,.inl ⟨rfl,rfl⟩⟩
end Go.Proofs.YtjaobihcdkjmbaaGreatDoor
end
