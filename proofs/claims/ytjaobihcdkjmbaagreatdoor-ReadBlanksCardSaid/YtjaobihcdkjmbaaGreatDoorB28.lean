/- The law ReadBlanks answers true for every argument; a part of its proof. -/
import Derived.Test.YtjaobihcdkjmbaaGreatDoorBa
import Derived.Test.YtjaobihcdkjmbaaGreatDoorBb
import Derived.Test.YtjaobihcdkjmbaaGreatDoorB0
import Derived.Test.YtjaobihcdkjmbaaGreatDoorB7
import Derived.Test.YtjaobihcdkjmbaaGreatDoorB11
import Derived.Test.YtjaobihcdkjmbaaGreatDoorB19
import Derived.Test.YtjaobihcdkjmbaaGreatDoorB23
set_option linter.unusedVariables false
set_option linter.unusedSimpArgs false
namespace Go.Proofs.YtjaobihcdkjmbaaGreatDoor.PReadTokens
end Go.Proofs.YtjaobihcdkjmbaaGreatDoor.PReadTokens
namespace Go.Proofs.YtjaobihcdkjmbaaGreatDoorW.PrintWords
end Go.Proofs.YtjaobihcdkjmbaaGreatDoorW.PrintWords
set_option maxRecDepth 100000
set_option maxHeartbeats 2000000
section
namespace Go.Proofs.YtjaobihcdkjmbaaGreatDoor
open Go.RowKit Go.Proofs.YtjaobihcdkjmbaaGreatDoorW.PrintWords Go.Proofs.YtjaobihcdkjmbaaGreatDoor.PReadTokens
theorem Ex.one {W:World} {S:Nat→Prop} {x:S31} {v5:Value} (h:Ex W S x (exV x v5)) (hS:S W.heap.size) (y:S31) (hy:y.f4=[x]) :
  Ex (W.alloc (.cells #[.int .i64 x.f0,.string x.f1.f0,.string x.f1.f1,.string x.f2,.int .i64 x.f3,v5] 31)) S y (exV y (.slice (some ⟨W.heap.size,0,none⟩) 1 1)):=by
 obtain⟨v,A,N,C,h1,h2,_,hM⟩:=h.cells;obtain rfl:=zCe h1;refine⟨_,rfl,?_⟩;rw[hy];exact lit_row (xs:=[x]) ((Reps.none _ _).snoc hM rfl) hS kCV
theorem sums_pos (W0:World) (R B:Nat) (ts:List S47) (en:Nat) (chk:S28→Int) (ex:Nat→PR) (m now:Nat) (w:World) (E:Env W0 R B ts) (h:St W0 R B ts en now w) (hm:m≤now)
  (hp:Pars W0 R B ts en 160 (zAO ts en chk ex) m) (hneg:sk ts en now ⟨#[45]⟩=false) :
  Calls Tryz.prog 135 #[.pointer (some ⟨R,0,none⟩)] w (zAj w R ts en now (zCQ ts en chk ex now)):=by
 have few:=E.few;have hRw:=h.rdr.lt;have hne0:=kAq hRw;have hnow:now≤ts.length:=h.pos;have hsk:=zAQ R ts now en ⟨#[45]⟩ (w.alloc zO) (h.rdr.keep ((kA3 _ _).alloc (kA2 _) _)) h.pos hneg;have h0:St W0 R B ts en now (w.alloc zO):=h.below ((kA3 _ _).alloc (kA2 _) _);have HP:=kA1 hp;have H:=kA1 h;unfold zCQ;rw[kA9 (by rw[hneg];decide)];clear hneg hp h
 cases hc:zAO ts en chk ex now with
 | error p =>
  go_enter Tryz.func135,Tryz.ntmps135;go_wp2_with fail;refine hsk.mono ?_;rintro e wk ⟨rfl,hkk⟩;have hp0:=HP.out now wk kCT (h0.took E hkk hnow);rw[hc] at hp0;unfold zAj zAk at hp0;clear hc;go_wp2_with fail;refine hp0.mono ?_;rintro e w1 ⟨rfl,hg⟩;go_wp2;exact⟨rfl,rfl,kA6 (hkk.start.grown) hg⟩
 | ok r =>
  obtain⟨x,n⟩:=r;show Calls _ _ _ _ (zAj w R ts en now (zAW ts en chk ex (ts.length+1) x n));generalize hres:zAW ts en chk ex (ts.length+1) x n=res;have HresL:=kA1 hres;clear hres;go_enter Tryz.func135,Tryz.ntmps135;go_wp2_with fail;refine hsk.mono ?_;rintro e wk ⟨rfl,hkk⟩;have hp0:=HP.out now wk kCT (h0.took E hkk hnow);rw[hc] at hp0;unfold zAj at hp0;clear hc;have hzk:=hkk.blk (zA4 w zO) hne0;go_wp2_with fail;refine hp0.mono ?_;rintro e w1 ⟨hn1,hn2,v,rfl,hx,hk⟩;obtain⟨v5,A5,n5,c5,rfl,rfl,_,_⟩:=hx.cells;unfold exV;have hX0:=hk.rdr.lt;have hz1:=hk.blk hzk hne0;have hXw:w.heap.size<w1.heap.size:=zA5 hz1;have hwk:w.heap.size<wk.heap.size:=zA5 hzk;have g1:Gath W0 R B ts en w w1.heap.size (w1.alloc (.cells #[.int .i64 x.f0,.string x.f1.f0,.string x.f1.f1,.string x.f2,.int .i64 x.f3,.slice A5 n5 c5] 31)) x n (.slice A5 n5 c5) :=
   ⟨(((h0.took E hkk hnow).took E hk hn2).below ((kA3 _ _).alloc (kA2 _) _)),(hkk.start.trans hk).alloc _,zA4 _ _,(hx.old (fun k h1 h2=>⟨by simp[From] at h1;omega,kB4 h2⟩)).below ((kA3 _ _).alloc (kA2 _) _),
    (kA4 _ _ _ (zA5 hz1)).trans hz1⟩
  have hXR:w1.heap.size≠R:=kAq hk.rdr.lt;obtain⟨⟨p0,p1,p2,p3,p4,p5⟩,⟨y0,y1,y2,y3,y4,y5⟩,xl⟩:=zA6 g1.blk;go_wp2;generalize w1.heap.size=X at *;generalize hW:w1.alloc _=W at *;clear hW hk hx hp0 h0 hkk hzk hz1 hX0 p0 p1 p2 p3 p4 p5 y0 y1 y2 y3 y4 y5 xl;have hres:=HresL.out;clear HresL;go_loopg [] (ts.length+1) (fun k wr=>∃x n v5,m<n∧now<n∧n≤ts.length∧ts.length<n+k∧Gath W0 R B ts en w X wr x n v5∧Hid (zAW ts en chk ex k x n=res))
  case atStart=>exact⟨x,n,_,kCT,kCT,hn2,kCT,g1,hres⟩
  case round =>
   clear g1 hres hn1 hn2;obtain⟨x,n,v5,hmn,hnn,hnl,hfuel,G,Hres⟩:=hrel;obtain⟨_,A5,n5,c5,h5,rfl,_,_⟩:=G.val.cells;obtain rfl:=zCe h5
   cases gk with
   | zero=>omega
   | succ gk =>
   cases h1:sk ts en n ⟨#[43]⟩ with
   | true =>
    have hs:=zAE R ts n en ⟨#[43]⟩ wr G.st.rdr few h1;have hlt:=zAs h1
    cases hc:zAO ts en chk ex (n+1) with
    | error p =>
     have Hres':Hid (res=.error p):=by
      have:=Hres.out;unfold zAW at this;rw[kAa h1,hc] at this;exact kA1 this.symm
     go_wp2_with fail;refine hs.mono ?_;rintro e w1 ⟨rfl,hk1⟩;have G1:=G.go E hRw hXw hk1 hlt;obtain⟨⟨p0,p1,p2,p3,p4,p5⟩,-,xl⟩:=zA6 G1.blk;have G1d:=G1.below ((kA3 _ w1).drew);have hp1:=HP.out (n+1) _ kCT G1d.st;rw[hc] at hp1;unfold zAj at hp1;unfold zAk at hp1;clear hc;go_wp2_with fail;refine kB2 (S:=(fun w'=>w'.cell? ⟨X,0,none⟩=some (Value.int IntKind.i64 x.f0)∧w'.cell? ⟨X,1,none⟩=some (Value.string x.f1.f0)∧w'.cell? ⟨X,2,none⟩=some (Value.string x.f1.f1)∧w'.cell? ⟨X,3,none⟩=some (Value.string x.f2)∧w'.cell? ⟨X,4,none⟩=some (Value.int IntKind.i64 x.f3)∧w'.cell? ⟨X,5,none⟩=some (.slice A5 n5 c5))) kCU (zA6 G1d.blk).1 (fun hHeld=>?_);refine kAu (i:=0) (v:=?v0c1) rfl kCU kCU kCU (fun _ _ _ h=>h) (Or.inl ⟨kCY,?hy0c1⟩) kD0 ?rest0c1
     case hy0c1=>(intro w hSw;(try dsimp only at hSw);go_simp;try (with_reducible rfl))
     try simp only[Act.put,kA0,List.set_cons_zero,List.set_cons_succ]
     refine kAu (i:=1) (v:=?v1c2) rfl kCU kCU kCU (fun _ _ _ h=>h) (Or.inl ⟨kCY,?hy1c2⟩) kD0 ?rest1c2
     case hy1c2=>(intro w hSw;(try dsimp only at hSw);go_simp;try (with_reducible rfl))
     try simp only[Act.put,kA0,List.set_cons_zero,List.set_cons_succ]
     refine kBJ (rs:=[2]) kCU kCV ?_;refine kBz rfl (fun K hK=>?_) kBF;go_simp;go_wp2_with (go_at_call 160;refine hp1.mono ?_;rintro e w2 ⟨rfl,hg2⟩);rw[Hres'.out];exact⟨rfl,rfl,kA6 G1d.took.grown hg2⟩
    | ok r =>
     obtain⟨y,n2⟩:=r;have Hres':Hid (zAW ts en chk ex gk (twoX 3 x y) n2=res):=by
      have:=Hres.out;unfold zAW at this;rw[kAa h1,hc] at this;exact kA1 this
     go_wp2_with fail;refine hs.mono ?_;rintro e w1 ⟨rfl,hk1⟩;have G1:=G.go E hRw hXw hk1 hlt;obtain⟨⟨p0,p1,p2,p3,p4,p5⟩,-,xl⟩:=zA6 G1.blk;have G1d:=G1.below ((kA3 _ w1).drew);have hp1:=HP.out (n+1) _ kCT G1d.st;rw[hc] at hp1;unfold zAj at hp1;clear hc;go_wp2_with fail
     go_region_with ((first
      | (go_at_call 160;refine hp1.mono ?_;rintro e w2 ⟨hn1,hn2,vy,rfl,hy,hk2⟩;have G2:=G1d.go E hRw hXw hk2 hn2;have hw:=G1d.two 3 E hRw hXw hy hk2 hn2;obtain⟨⟨q0,q1,q2,q3,q4,q5⟩,-,lt2⟩:=zA6 G2.blk)
      | (go_at_call 161;refine hw.mono ?_;rintro e w3 ⟨u,A,N,C,rfl,rfl,G3,hu⟩;obtain⟨⟨r0,r1,r2,r3,r4,r5⟩,⟨f0,f1,f2,f3,f4,f5⟩,lt3⟩:=zA6 G3.blk;simp only[exV,twoX])))
     all_goals
      have G4:=G3.store E hRw hXw hu;go_wp2;go_roundg gk
      case measure=>omega
      case rel=>exact⟨_,n2,_,kCT,kCT,hn2,kCT,G4,Hres'⟩
   | false =>
    have hs:=zAQ R ts n en ⟨#[43]⟩ wr G.st.rdr hnl h1
    cases h2:sk ts en n ⟨#[45]⟩ with
    | true =>
     have hlt:=zAs h2
     cases hc:zAO ts en chk ex (n+1) with
     | error p =>
      have Hres':Hid (res=.error p):=by
       have:=Hres.out;unfold zAW at this;rw[kA9 kDa,kAa h2,hc] at this;exact kA1 this.symm
      go_wp2_with fail;refine hs.mono ?_;rintro e w0 ⟨rfl,hk0⟩;have G0:=G.go E hRw hXw hk0 hnl;have hs2:=zAE R ts n en ⟨#[45]⟩ w0 G0.st.rdr few h2;go_wp2_with fail;refine hs2.mono ?_;rintro e w1 ⟨rfl,hk1⟩;have G1:=G0.go E hRw hXw hk1 hlt;obtain⟨⟨p0,p1,p2,p3,p4,p5⟩,-,xl⟩:=zA6 G1.blk;have G1d:=G1.below ((kA3 _ w1).drew);have hp1:=HP.out (n+1) _ kCT G1d.st;rw[hc] at hp1;unfold zAj at hp1;unfold zAk at hp1;clear hc;go_wp2_with fail;refine kB2 (S:=(fun w'=>w'.cell? ⟨X,0,none⟩=some (Value.int IntKind.i64 x.f0)∧w'.cell? ⟨X,1,none⟩=some (Value.string x.f1.f0)∧w'.cell? ⟨X,2,none⟩=some (Value.string x.f1.f1)∧w'.cell? ⟨X,3,none⟩=some (Value.string x.f2)∧w'.cell? ⟨X,4,none⟩=some (Value.int IntKind.i64 x.f3)∧w'.cell? ⟨X,5,none⟩=some (.slice A5 n5 c5))) kCU (zA6 G1d.blk).1 (fun hHeld=>?_);refine kAu (i:=0) (v:=?v0c3) rfl kCU kCU kCU (fun _ _ _ h=>h) (Or.inl ⟨kCY,?hy0c3⟩) kD0 ?rest0c3
      case hy0c3=>(intro w hSw;(try dsimp only at hSw);go_simp;try (with_reducible rfl))
      try simp only[Act.put,kA0,List.set_cons_zero,List.set_cons_succ]
      refine kAu (i:=1) (v:=?v1c4) rfl kCU kCU kCU (fun _ _ _ h=>h) (Or.inl ⟨kCY,?hy1c4⟩) kD0 ?rest1c4
      case hy1c4=>(intro w hSw;(try dsimp only at hSw);go_simp;try (with_reducible rfl))
      try simp only[Act.put,kA0,List.set_cons_zero,List.set_cons_succ]
      refine kBJ (rs:=[2]) kCU kCV ?_;refine kBz rfl (fun K hK=>?_) kBF;go_simp;go_wp2_with (go_at_call 160;refine hp1.mono ?_;rintro e w2 ⟨rfl,hg2⟩);rw[Hres'.out];exact⟨rfl,rfl,kA6 G1d.took.grown hg2⟩
     | ok r =>
      obtain⟨y,n2⟩:=r;have Hres':Hid (zAW ts en chk ex gk (twoX 4 x y) n2=res):=by
       have:=Hres.out;unfold zAW at this;rw[kA9 kDa,kAa h2,hc] at this;exact kA1 this
      go_wp2_with fail;refine hs.mono ?_;rintro e w0 ⟨rfl,hk0⟩;have G0:=G.go E hRw hXw hk0 hnl;have hs2:=zAE R ts n en ⟨#[45]⟩ w0 G0.st.rdr few h2;go_wp2_with fail;refine hs2.mono ?_;rintro e w1 ⟨rfl,hk1⟩;have G1:=G0.go E hRw hXw hk1 hlt;obtain⟨⟨p0,p1,p2,p3,p4,p5⟩,-,xl⟩:=zA6 G1.blk;have G1d:=G1.below ((kA3 _ w1).drew);have hp1:=HP.out (n+1) _ kCT G1d.st;rw[hc] at hp1;unfold zAj at hp1;clear hc;go_wp2_with fail
      go_region_with ((first
       | (go_at_call 160;refine hp1.mono ?_;rintro e w2 ⟨hn1,hn2,vy,rfl,hy,hk2⟩;have G2:=G1d.go E hRw hXw hk2 hn2;have hw:=G1d.two 4 E hRw hXw hy hk2 hn2;obtain⟨⟨q0,q1,q2,q3,q4,q5⟩,-,lt2⟩:=zA6 G2.blk)
       | (go_at_call 161;refine hw.mono ?_;rintro e w3 ⟨u,A,N,C,rfl,rfl,G3,hu⟩;obtain⟨⟨r0,r1,r2,r3,r4,r5⟩,⟨f0,f1,f2,f3,f4,f5⟩,lt3⟩:=zA6 G3.blk;simp only[exV,twoX])))
      all_goals
       have G4:=G3.store E hRw hXw hu;go_wp2;go_roundg gk
       case measure=>omega
       case rel=>exact⟨_,n2,_,kCT,kCT,hn2,kCT,G4,Hres'⟩
    | false =>
     have Hres':Hid (res=.ok (x,n)):=by
      have:=Hres.out;unfold zAW at this;rw[kA9 kDa,kA9 kDp] at this;exact kA1 this.symm
     go_wp2_with fail;refine hs.mono ?_;rintro e w0 ⟨rfl,hk0⟩;have G0:=G.go E hRw hXw hk0 hnl;have hs2:=zAQ R ts n en ⟨#[45]⟩ w0 G0.st.rdr hnl h2;go_wp2_with fail;refine hs2.mono ?_;rintro e w1 ⟨rfl,hk1⟩;have G1:=G0.go E hRw hXw hk1 hnl;obtain⟨⟨p0,p1,p2,p3,p4,p5⟩,-,xl⟩:=zA6 G1.blk;obtain⟨⟨q0,q1,q2,q3,q4,q5⟩,⟨f0,f1,f2,f3,f4,f5⟩,xl2⟩:=zA6 G1.res;go_wp2;rw[Hres'.out];refine kAi (zAg Tryz.results135 _ _ w.heap.size 31 _ (0,0) _ rfl (fin6 _ _ _ _ _ _ G1.res) Tryz.underlying31 rfl zAV) rfl ⟨hnn,hnl,_,rfl,?_,?_⟩
     ·exact (G1.val.set6 (fun k hk=>kAq hk.1) _ _ _ _ _ _).mono (fun k hk=>kAX hk.1)
     ·exact G1.took.set6 G1.res hne0 (kA2 _) _ _ _ _ _ _
theorem sums_neg (W0:World) (R B:Nat) (ts:List S47) (en:Nat) (chk:S28→Int) (ex:Nat→PR) (m now:Nat) (w:World) (E:Env W0 R B ts) (h:St W0 R B ts en now w) (hm:m≤now)
  (hp:Pars W0 R B ts en 160 (zAO ts en chk ex) m) (hneg:sk ts en now ⟨#[45]⟩=true) :
  Calls Tryz.prog 135 #[.pointer (some ⟨R,0,none⟩)] w (zAj w R ts en now (zCQ ts en chk ex now)):=by
 have few:=E.few;have hRw:=h.rdr.lt;have hne0:=kAq hRw;have hnow:now+1≤ts.length:=zAs hneg;have hsk:=zAE R ts now en ⟨#[45]⟩ (w.alloc zO) (h.rdr.keep ((kA3 _ _).alloc (kA2 _) _)) few hneg;have h0:St W0 R B ts en now (w.alloc zO):=h.below ((kA3 _ _).alloc (kA2 _) _);have HP:=kA1 hp;have H:=kA1 h;unfold zCQ;rw[kAa hneg];clear hneg hp h
 cases hc:zAO ts en chk ex (now+1) with
 | error p =>
  go_enter Tryz.func135,Tryz.ntmps135;go_wp2_with fail;refine hsk.mono ?_;rintro e wk ⟨rfl,hkk⟩;have hp0:=HP.out (now+1) wk kCT (h0.took E hkk hnow);rw[hc] at hp0;unfold zAj zAk at hp0;clear hc;go_wp2_with fail;refine hp0.mono ?_;rintro e w1 ⟨rfl,hg⟩;go_wp2;exact⟨rfl,rfl,kA6 (hkk.start.grown) hg⟩
 | ok r =>
  obtain⟨x,n⟩:=r;show Calls _ _ _ _ (zAj w R ts en now (zAW ts en chk ex (ts.length+1) ⟨2,z28,⟨#[]⟩,0,[x]⟩ n));generalize hres:zAW ts en chk ex (ts.length+1) ⟨2,z28,⟨#[]⟩,0,[x]⟩ n=res;have HresL:=kA1 hres;clear hres;go_enter Tryz.func135,Tryz.ntmps135;go_wp2_with fail;refine hsk.mono ?_;rintro e wk ⟨rfl,hkk⟩;have hp0:=HP.out (now+1) wk kCT (h0.took E hkk hnow);rw[hc] at hp0;unfold zAj at hp0;clear hc;have hzk:=hkk.blk (zA4 w zO) hne0;go_wp2_with fail;refine hp0.mono ?_;rintro e w1 ⟨hn1,hn2,v,rfl,hx,hk⟩;obtain⟨v5,A5,n5,c5,rfl,rfl,_,_⟩:=hx.cells;unfold exV;have hX0:=hk.rdr.lt;have hz1:=hk.blk hzk hne0;have hXw:w.heap.size<w1.heap.size:=zA5 hz1;have hwk:w.heap.size<wk.heap.size:=zA5 hzk;have g1:Gath W0 R B ts en w w1.heap.size (w1.alloc (.cells #[.int .i64 x.f0,.string x.f1.f0,.string x.f1.f1,.string x.f2,.int .i64 x.f3,.slice A5 n5 c5] 31)) x n (.slice A5 n5 c5) :=
   ⟨(((h0.took E hkk hnow).took E hk hn2).below ((kA3 _ _).alloc (kA2 _) _)),(hkk.start.trans hk).alloc _,zA4 _ _,(hx.old (fun k h1 h2=>⟨by simp[From] at h1;omega,kB4 h2⟩)).below ((kA3 _ _).alloc (kA2 _) _),
    (kA4 _ _ _ (zA5 hz1)).trans hz1⟩
  have hXR:w1.heap.size≠R:=kAq hk.rdr.lt;obtain⟨⟨p0,p1,p2,p3,p4,p5⟩,⟨y0,y1,y2,y3,y4,y5⟩,xl⟩:=zA6 g1.blk;go_wp2;clear g1 p0 p1 p2 p3 p4 p5 y0 y1 y2 y3 y4 y5 xl;have hx1:=((hx.old (S':=Sx w w1.heap.size) (fun k h1 h2=>⟨by simp[From] at h1;omega,kB4 h2⟩)).below ((kA3 _ w1).alloc (kA2 _) (.cells #[.int .i64 2,.string ⟨#[]⟩,.string ⟨#[]⟩,.string ⟨#[]⟩,.int .i64 0,.slice (some ⟨w1.heap.size+1,0,none⟩) 1 1] 31))).one kCX ⟨2,z28,⟨#[]⟩,0,[x]⟩ rfl;simp only[kAz] at hx1;have hbA:=(((kA3 w1.heap.size w1).alloc (kA2 _) (.cells #[.int .i64 2,.string ⟨#[]⟩,.string ⟨#[]⟩,.string ⟨#[]⟩,.int .i64 0,.slice (some ⟨w1.heap.size+1,0,none⟩) 1 1] 31)).alloc kCV (.cells #[.int .i64 x.f0,.string x.f1.f0,.string x.f1.f1,.string x.f2,.int .i64 x.f3,.slice A5 n5 c5] 31));have g1:Gath W0 R B ts en w w1.heap.size _ ⟨2,z28,⟨#[]⟩,0,[x]⟩ n (.slice (some ⟨w1.heap.size+1,0,none⟩) 1 1) :=
   ⟨((h0.took E hkk hnow).took E hk hn2).below hbA,(hkk.start.trans hk).below hbA,(kA4 _ _ _ kCV).trans (zA4 _ _),hx1,zA9 hbA hz1⟩
  generalize w1.heap.size=X at *;generalize hW:World.alloc (World.alloc w1 _) _=W at *;clear hW hk hx hp0 h0 hkk hzk hz1 hX0 hx1 hbA;have hres:=HresL.out;clear HresL;go_loopg [] (ts.length+1) (fun k wr=>∃x n v5,m<n∧now<n∧n≤ts.length∧ts.length<n+k∧Gath W0 R B ts en w X wr x n v5∧Hid (zAW ts en chk ex k x n=res))
  case atStart=>exact⟨⟨2,z28,⟨#[]⟩,0,[x]⟩,n,_,kCT,kCT,hn2,kCT,g1,hres⟩
  case round =>
   clear g1 hres hn1 hn2;obtain⟨x,n,v5,hmn,hnn,hnl,hfuel,G,Hres⟩:=hrel;obtain⟨_,A5,n5,c5,h5,rfl,_,_⟩:=G.val.cells;obtain rfl:=zCe h5
   cases gk with
   | zero=>omega
   | succ gk =>
   cases h1:sk ts en n ⟨#[43]⟩ with
   | true =>
    have hs:=zAE R ts n en ⟨#[43]⟩ wr G.st.rdr few h1;have hlt:=zAs h1
    cases hc:zAO ts en chk ex (n+1) with
    | error p =>
     have Hres':Hid (res=.error p):=by
      have:=Hres.out;unfold zAW at this;rw[kAa h1,hc] at this;exact kA1 this.symm
     go_wp2_with fail;refine hs.mono ?_;rintro e w1 ⟨rfl,hk1⟩;have G1:=G.go E hRw hXw hk1 hlt;obtain⟨⟨p0,p1,p2,p3,p4,p5⟩,-,xl⟩:=zA6 G1.blk;have G1d:=G1.below ((kA3 _ w1).drew);have hp1:=HP.out (n+1) _ kCT G1d.st;rw[hc] at hp1;unfold zAj at hp1;unfold zAk at hp1;clear hc;go_wp2_with fail;refine kB2 (S:=(fun w'=>w'.cell? ⟨X,0,none⟩=some (Value.int IntKind.i64 x.f0)∧w'.cell? ⟨X,1,none⟩=some (Value.string x.f1.f0)∧w'.cell? ⟨X,2,none⟩=some (Value.string x.f1.f1)∧w'.cell? ⟨X,3,none⟩=some (Value.string x.f2)∧w'.cell? ⟨X,4,none⟩=some (Value.int IntKind.i64 x.f3)∧w'.cell? ⟨X,5,none⟩=some (.slice A5 n5 c5))) kCU (zA6 G1d.blk).1 (fun hHeld=>?_);refine kAu (i:=0) (v:=?v0c5) rfl kCU kCU kCU (fun _ _ _ h=>h) (Or.inl ⟨kCY,?hy0c5⟩) kD0 ?rest0c5
     case hy0c5=>(intro w hSw;(try dsimp only at hSw);go_simp;try (with_reducible rfl))
     try simp only[Act.put,kA0,List.set_cons_zero,List.set_cons_succ]
     refine kAu (i:=1) (v:=?v1c6) rfl kCU kCU kCU (fun _ _ _ h=>h) (Or.inl ⟨kCY,?hy1c6⟩) kD0 ?rest1c6
     case hy1c6=>(intro w hSw;(try dsimp only at hSw);go_simp;try (with_reducible rfl))
     try simp only[Act.put,kA0,List.set_cons_zero,List.set_cons_succ]
     refine kBJ (rs:=[2]) kCU kCV ?_;refine kBz rfl (fun K hK=>?_) kBF;go_simp;go_wp2_with (go_at_call 160;refine hp1.mono ?_;rintro e w2 ⟨rfl,hg2⟩);rw[Hres'.out];exact⟨rfl,rfl,kA6 G1d.took.grown hg2⟩
    | ok r =>
     obtain⟨y,n2⟩:=r;have Hres':Hid (zAW ts en chk ex gk (twoX 3 x y) n2=res):=by
      have:=Hres.out;unfold zAW at this;rw[kAa h1,hc] at this;exact kA1 this
     go_wp2_with fail;refine hs.mono ?_;rintro e w1 ⟨rfl,hk1⟩;have G1:=G.go E hRw hXw hk1 hlt;obtain⟨⟨p0,p1,p2,p3,p4,p5⟩,-,xl⟩:=zA6 G1.blk;have G1d:=G1.below ((kA3 _ w1).drew);have hp1:=HP.out (n+1) _ kCT G1d.st;rw[hc] at hp1;unfold zAj at hp1;clear hc;go_wp2_with fail
     go_region_with ((first
      | (go_at_call 160;refine hp1.mono ?_;rintro e w2 ⟨hn1,hn2,vy,rfl,hy,hk2⟩;have G2:=G1d.go E hRw hXw hk2 hn2;have hw:=G1d.two 3 E hRw hXw hy hk2 hn2;obtain⟨⟨q0,q1,q2,q3,q4,q5⟩,-,lt2⟩:=zA6 G2.blk)
      | (go_at_call 161;refine hw.mono ?_;rintro e w3 ⟨u,A,N,C,rfl,rfl,G3,hu⟩;obtain⟨⟨r0,r1,r2,r3,r4,r5⟩,⟨f0,f1,f2,f3,f4,f5⟩,lt3⟩:=zA6 G3.blk;simp only[exV,twoX])))
     all_goals
      have G4:=G3.store E hRw hXw hu;go_wp2;go_roundg gk
      case measure=>omega
      case rel=>exact⟨_,n2,_,kCT,kCT,hn2,kCT,G4,Hres'⟩
   | false =>
    have hs:=zAQ R ts n en ⟨#[43]⟩ wr G.st.rdr hnl h1
    cases h2:sk ts en n ⟨#[45]⟩ with
    | true =>
     have hlt:=zAs h2
     cases hc:zAO ts en chk ex (n+1) with
     | error p =>
      have Hres':Hid (res=.error p):=by
       have:=Hres.out;unfold zAW at this;rw[kA9 kDa,kAa h2,hc] at this;exact kA1 this.symm
      go_wp2_with fail;refine hs.mono ?_;rintro e w0 ⟨rfl,hk0⟩;have G0:=G.go E hRw hXw hk0 hnl;have hs2:=zAE R ts n en ⟨#[45]⟩ w0 G0.st.rdr few h2;go_wp2_with fail;refine hs2.mono ?_;rintro e w1 ⟨rfl,hk1⟩;have G1:=G0.go E hRw hXw hk1 hlt;obtain⟨⟨p0,p1,p2,p3,p4,p5⟩,-,xl⟩:=zA6 G1.blk;have G1d:=G1.below ((kA3 _ w1).drew);have hp1:=HP.out (n+1) _ kCT G1d.st;rw[hc] at hp1;unfold zAj at hp1;unfold zAk at hp1;clear hc;go_wp2_with fail;refine kB2 (S:=(fun w'=>w'.cell? ⟨X,0,none⟩=some (Value.int IntKind.i64 x.f0)∧w'.cell? ⟨X,1,none⟩=some (Value.string x.f1.f0)∧w'.cell? ⟨X,2,none⟩=some (Value.string x.f1.f1)∧w'.cell? ⟨X,3,none⟩=some (Value.string x.f2)∧w'.cell? ⟨X,4,none⟩=some (Value.int IntKind.i64 x.f3)∧w'.cell? ⟨X,5,none⟩=some (.slice A5 n5 c5))) kCU (zA6 G1d.blk).1 (fun hHeld=>?_);refine kAu (i:=0) (v:=?v0c7) rfl kCU kCU kCU (fun _ _ _ h=>h) (Or.inl ⟨kCY,?hy0c7⟩) kD0 ?rest0c7
      case hy0c7=>(intro w hSw;(try dsimp only at hSw);go_simp;try (with_reducible rfl))
      try simp only[Act.put,kA0,List.set_cons_zero,List.set_cons_succ]
      refine kAu (i:=1) (v:=?v1c8) rfl kCU kCU kCU (fun _ _ _ h=>h) (Or.inl ⟨kCY,?hy1c8⟩) kD0 ?rest1c8
      case hy1c8=>(intro w hSw;(try dsimp only at hSw);go_simp;try (with_reducible rfl))
      try simp only[Act.put,kA0,List.set_cons_zero,List.set_cons_succ]
      refine kBJ (rs:=[2]) kCU kCV ?_;refine kBz rfl (fun K hK=>?_) kBF;go_simp;go_wp2_with (go_at_call 160;refine hp1.mono ?_;rintro e w2 ⟨rfl,hg2⟩);rw[Hres'.out];exact⟨rfl,rfl,kA6 G1d.took.grown hg2⟩
     | ok r =>
      obtain⟨y,n2⟩:=r;have Hres':Hid (zAW ts en chk ex gk (twoX 4 x y) n2=res):=by
       have:=Hres.out;unfold zAW at this;rw[kA9 kDa,kAa h2,hc] at this;exact kA1 this
      go_wp2_with fail;refine hs.mono ?_;rintro e w0 ⟨rfl,hk0⟩;have G0:=G.go E hRw hXw hk0 hnl;have hs2:=zAE R ts n en ⟨#[45]⟩ w0 G0.st.rdr few h2;go_wp2_with fail;refine hs2.mono ?_;rintro e w1 ⟨rfl,hk1⟩;have G1:=G0.go E hRw hXw hk1 hlt;obtain⟨⟨p0,p1,p2,p3,p4,p5⟩,-,xl⟩:=zA6 G1.blk;have G1d:=G1.below ((kA3 _ w1).drew);have hp1:=HP.out (n+1) _ kCT G1d.st;rw[hc] at hp1;unfold zAj at hp1;clear hc;go_wp2_with fail
      go_region_with ((first
       | (go_at_call 160;refine hp1.mono ?_;rintro e w2 ⟨hn1,hn2,vy,rfl,hy,hk2⟩;have G2:=G1d.go E hRw hXw hk2 hn2;have hw:=G1d.two 4 E hRw hXw hy hk2 hn2;obtain⟨⟨q0,q1,q2,q3,q4,q5⟩,-,lt2⟩:=zA6 G2.blk)
       | (go_at_call 161;refine hw.mono ?_;rintro e w3 ⟨u,A,N,C,rfl,rfl,G3,hu⟩;obtain⟨⟨r0,r1,r2,r3,r4,r5⟩,⟨f0,f1,f2,f3,f4,f5⟩,lt3⟩:=zA6 G3.blk;simp only[exV,twoX])))
      all_goals
       have G4:=G3.store E hRw hXw hu;go_wp2;go_roundg gk
       case measure=>omega
       case rel=>exact⟨_,n2,_,kCT,kCT,hn2,kCT,G4,Hres'⟩
    | false =>
     have Hres':Hid (res=.ok (x,n)):=by
      have:=Hres.out;unfold zAW at this;rw[kA9 kDa,kA9 kDp] at this;exact kA1 this.symm
     go_wp2_with fail;refine hs.mono ?_;rintro e w0 ⟨rfl,hk0⟩;have G0:=G.go E hRw hXw hk0 hnl;have hs2:=zAQ R ts n en ⟨#[45]⟩ w0 G0.st.rdr hnl h2;go_wp2_with fail;refine hs2.mono ?_;rintro e w1 ⟨rfl,hk1⟩;have G1:=G0.go E hRw hXw hk1 hnl;obtain⟨⟨p0,p1,p2,p3,p4,p5⟩,-,xl⟩:=zA6 G1.blk;obtain⟨⟨q0,q1,q2,q3,q4,q5⟩,⟨f0,f1,f2,f3,f4,f5⟩,xl2⟩:=zA6 G1.res;go_wp2;rw[Hres'.out];refine kAi (zAg Tryz.results135 _ _ w.heap.size 31 _ (0,0) _ rfl (fin6 _ _ _ _ _ _ G1.res) Tryz.underlying31 rfl zAV) rfl ⟨hnn,hnl,_,rfl,?_,?_⟩
     ·exact (G1.val.set6 (fun k hk=>kAq hk.1) _ _ _ _ _ _).mono (fun k hk=>kAX hk.1)
     ·exact G1.took.set6 G1.res hne0 (kA2 _) _ _ _ _ _ _
theorem sums_walk (W0:World) (R B:Nat) (ts:List S47) (en:Nat) (chk:S28→Int) (ex:Nat→PR) (m:Nat) (E:Env W0 R B ts) (hp:Pars W0 R B ts en 160 (zAO ts en chk ex) m) :
  Pars W0 R B ts en 135 (zCQ ts en chk ex) m:=fun now w hm h=>by
 cases hs:sk ts en now ⟨#[45]⟩ with
 | true=>exact sums_neg W0 R B ts en chk ex m now w E h hm hp hs
 | false=>exact sums_pos W0 R B ts en chk ex m now w E h hm hp hs
theorem numS_ok {ts:List S47} {en:Nat} {lo hi v:Int} {now n:Nat} (h:numS ts en lo hi now=.ok (v,n)):n=now+1∧now<ts.length∧lo≤v∧v≤hi:=by
 unfold numS at h;split at h
 ·split at h
  ·rename_i hv h2;injection h with h;injection h with h3 h;subst h3;exact⟨h.symm,zBG h2.1 kCW,h2.2⟩
  ·cases h
 ·cases h
theorem zBW (W0:World) (R B:Nat) (ts:List S47) (en now:Nat) (lo hi:Int) (w:World) (E:Env W0 R B ts) (h:St W0 R B ts en now w) :
  Calls Tryz.prog 179 #[.pointer (some ⟨R,0,none⟩),.int .i64 lo,.int .i64 hi] w (zDo w R ts en (numS ts en lo hi now)):=by
 cases hn:numS ts en lo hi now with
 | ok r =>
  obtain⟨v,n⟩:=r;obtain⟨rfl,hlt,_,_⟩:=numS_ok hn;unfold numS at hn;split at hn
  ·rename_i v' hv;split at hn
   ·rename_i h2;injection hn with hn;injection hn with hn _;subst hn;exact number_ok W0 R B ts en now lo hi v' w E h hlt (by rw[kAx];exact h2.1) hv h2.2.1 h2.2.2
   ·cases hn
  ·cases hn
 | error p =>
  have:p=(tokP ts en now).f2∧∀v,Lib.atoiAll (tokP ts en now).f1.data.toList=.ok v→¬((tokP ts en now).f0=2∧lo≤v∧v≤hi):=by
   unfold numS at hn;split at hn
   ·rename_i v' hv;split at hn
    ·cases hn
    ·rename_i h2;injection hn with hn;refine⟨hn.symm,fun v hv2=>?_⟩;rw[hv] at hv2;injection hv2 with hv2;subst hv2;exact h2
   ·rename_i hv;injection hn with hn;exact⟨hn.symm,fun v hv2=>absurd hv2 (hv v)⟩
  obtain⟨rfl,hno⟩:=this;exact number_no W0 R B ts en now lo hi w E h hno
theorem Gath.size {W0:World} {R B:Nat} {ts:List S47} {en:Nat} {w:World} {X:Nat} {wr:World} {x:S31} {n:Nat} {v:Value} (E:Env W0 R B ts) (hR:R<w.heap.size) (hX:w.heap.size<X)
  (G:Gath W0 R B ts en w X wr x n v) (k:Int):Gath W0 R B ts en w X (wr.setCell ⟨X,4,none⟩ (.int .i64 k)) ⟨x.f0,x.f1,x.f2,k,x.f4⟩ n v:=by
 have hXR:X≠R:=kCT
 have own:=E.own;have hlow:=G.st.low.size;have hk:=G.took.far G.blk hXR (kAX hX) 4 (.int .i64 k);obtain⟨v5,h1,h2⟩:=G.val.out;obtain rfl:=zCe h1;exact⟨⟨hk.rdr,G.st.low.setCell (p:=⟨X,4,none⟩) kDf _,by rw[kAL];exact G.st.base,G.st.pos⟩,hk,zA7 G.blk 4 _,
  ⟨_,rfl,Kd.R_step h2 (fun j hj _=>kA5 _ _ _ _ hj.2)⟩,(kA5 _ _ _ _ kDf).trans G.res⟩
theorem power_walk (W0:World) (R B:Nat) (ts:List S47) (en:Nat) (chk:S28→Int) (ex:Nat→PR) (m now:Nat) (w:World) (E:Env W0 R B ts) (h:St W0 R B ts en now w) (hm:m≤now)
  (hp:Pars W0 R B ts en 217 (zCk ts en chk ex) m) :
  Calls Tryz.prog 180 #[.pointer (some ⟨R,0,none⟩)] w (zAj w R ts en now (zCv ts en chk ex now)):=by
 have hp0:=hp now (w.alloc zO) hm (h.below ((kA3 _ _).alloc (kA2 _) _));unfold zCv;have few:=E.few;have hRw:=h.rdr.lt;have hne0:=kAq hRw
 cases hc:zCk ts en chk ex now with
 | error p =>
  rw[hc] at hp0;unfold zAj zAk at hp0;clear hc hp h;go_enter Tryz.func180,Tryz.ntmps180;go_wp2_with fail;refine hp0.mono ?_;rintro e w1 ⟨rfl,hg⟩;go_wp2;exact⟨rfl,rfl,kA6 (kAC w zO _) hg⟩
 | ok r =>
  obtain⟨x,n⟩:=r;rw[hc] at hp0;unfold zAj at hp0;have H:=kA1 h;have h0:St W0 R B ts en now (w.alloc zO):=h.below ((kA3 _ _).alloc (kA2 _) _);clear hp h hc;dsimp only;have start:∀(w1:World) (v5:Value),Ex w1 (From (w.alloc zO).heap.size) x (exV x v5)→Took (w.alloc zO) R ts n en w1→n≤ts.length→w.heap.size<w1.heap.size ∧
    Gath W0 R B ts en w w1.heap.size (w1.alloc (.cells #[.int .i64 x.f0,.string x.f1.f0,.string x.f1.f1,.string x.f2,.int .i64 x.f3,v5] 31)) x n v5:=fun w1 v5 hx hk hn2=>by
   have hz:=hk.blk (zA4 w zO) hne0;have hXw:w.heap.size<w1.heap.size:=zA5 hz;exact⟨hXw,(h0.took E hk hn2).below ((kA3 _ _).alloc (kA2 _) _),hk.start.alloc _,zA4 _ _,(hx.old (fun k h1 h2=>⟨by simp[From] at h1;omega,kB4 h2⟩)).below ((kA3 _ _).alloc (kA2 _) _),
    (kA4 _ _ _ (zA5 hz)).trans hz⟩
  have Start:=kA1 start;clear start h0
  cases hs:sk ts en n ⟨#[94]⟩ with
  | false =>
   rw[kA9 kCW];go_enter Tryz.func180,Tryz.ntmps180;go_wp2_with fail;refine hp0.mono ?_;rintro e w1 ⟨hn1,hn2,v,rfl,hx,hk⟩;obtain⟨v5,A5,n5,c5,rfl,rfl,_,_⟩:=hx.cells;obtain⟨hXw,G⟩:=Start.out w1 _ hx hk hn2;have hsk:=zAQ R ts n en ⟨#[94]⟩ _ G.st.rdr hn2 hs;unfold exV;go_wp2_with fail;refine hsk.mono ?_;rintro e w2 ⟨rfl,hk2⟩;have G2:=G.go E hRw hXw hk2 hn2;obtain⟨⟨p0,p1,p2,p3,p4,p5⟩,-,xl⟩:=zA6 G2.blk;obtain⟨⟨q0,q1,q2,q3,q4,q5⟩,⟨f0,f1,f2,f3,f4,f5⟩,xl2⟩:=zA6 G2.res;go_wp2;refine kAi (zAg Tryz.results180 _ _ w.heap.size 31 _ (0,0) _ rfl (fin6 _ _ _ _ _ _ G2.res) Tryz.underlying31 rfl zAV) rfl ⟨hn1,hn2,_,rfl,?_,?_⟩
   ·exact (G2.val.set6 (fun k hk=>kAq hk.1) _ _ _ _ _ _).mono (fun k hk=>kAX hk.1)
   ·exact G2.took.set6 G2.res hne0 (kA2 _) _ _ _ _ _ _
  | true =>
   rw[kAa rfl];have hlt:=zAs hs
   cases hs2:sk ts en (n+1) ⟨#[45]⟩ with
   | true =>
    rw[kAa rfl];have hlt1:=zAs hs2
    cases hnum:numS ts en 1 9 (n+1+1) with
    | error p =>
     dsimp only;go_enter Tryz.func180,Tryz.ntmps180;go_wp2_with fail;refine hp0.mono ?_;rintro e w1 ⟨hn1,hn2,v,rfl,hx,hk⟩;obtain⟨v5,A5,n5,c5,rfl,rfl,_,_⟩:=hx.cells;obtain⟨hXw,G⟩:=Start.out w1 _ hx hk hn2;have hsk:=zAE R ts n en ⟨#[94]⟩ _ G.st.rdr few hs;unfold exV;go_wp2_with fail;refine hsk.mono ?_;rintro e w2 ⟨rfl,hk2⟩;have G2:=G.go E hRw hXw hk2 hlt;obtain⟨⟨p0,p1,p2,p3,p4,p5⟩,⟨f0,f1,f2,f3,f4,f5⟩,xl⟩:=zA6 G2.blk;have hone:=G2.val.one ⟨kCT,kCT⟩ ⟨7,z28,⟨#[]⟩,0,[x]⟩ rfl;have G3:=(G2.below ((kA3 _ w2).alloc (kA2 _) (.cells #[.int .i64 x.f0,.string x.f1.f0,.string x.f1.f1,.string x.f2,.int .i64 x.f3,.slice A5 n5 c5] 31))).store E hRw hXw hone;have hsk3:=zAE R ts (n+1) en ⟨#[45]⟩ _ G3.st.rdr few hs2;simp only[set6,kB5,kAL,xl,z28] at G3 hsk3;clear p0 p1 p2 p3 p4 p5 f0 f1 f2 f3 f4 f5;obtain⟨⟨p0,p1,p2,p3,p4,p5⟩,⟨f0,f1,f2,f3,f4,f5⟩,-⟩:=zA6 G2.blk;go_wp2_with fail;refine hsk3.mono ?_;rintro e w3 ⟨rfl,hk3⟩;have G4:=G3.go E hRw hXw hk3 hlt1;have hnn:=zBW W0 R B ts en (n+1+1) 1 9 w3 E G4.st;rw[hnum] at hnn;unfold zDo zAk at hnn;clear hsk3 hsk hone G3;go_wp2_with fail;refine hnn.mono ?_;rintro e w4 ⟨rfl,hg4⟩;go_wp2;exact⟨rfl,rfl,kA6 G4.took.grown hg4⟩
    | ok r =>
     obtain⟨k,n2⟩:=r;obtain⟨rfl,hlt2,hlo,hhi⟩:=numS_ok hnum;dsimp only;go_enter Tryz.func180,Tryz.ntmps180;go_wp2_with fail;refine hp0.mono ?_;rintro e w1 ⟨hn1,hn2,v,rfl,hx,hk⟩;obtain⟨v5,A5,n5,c5,rfl,rfl,_,_⟩:=hx.cells;obtain⟨hXw,G⟩:=Start.out w1 _ hx hk hn2;have hsk:=zAE R ts n en ⟨#[94]⟩ _ G.st.rdr few hs;unfold exV;go_wp2_with fail;refine hsk.mono ?_;rintro e w2 ⟨rfl,hk2⟩;have G2:=G.go E hRw hXw hk2 hlt;obtain⟨⟨p0,p1,p2,p3,p4,p5⟩,⟨f0,f1,f2,f3,f4,f5⟩,xl⟩:=zA6 G2.blk;have hone:=G2.val.one ⟨kCT,kCT⟩ ⟨7,z28,⟨#[]⟩,0,[x]⟩ rfl;have G3:=(G2.below ((kA3 _ w2).alloc (kA2 _) (.cells #[.int .i64 x.f0,.string x.f1.f0,.string x.f1.f1,.string x.f2,.int .i64 x.f3,.slice A5 n5 c5] 31))).store E hRw hXw hone;have hsk3:=zAE R ts (n+1) en ⟨#[45]⟩ _ G3.st.rdr few hs2;simp only[set6,kB5,kAL,xl,z28] at G3 hsk3;clear p0 p1 p2 p3 p4 p5 f0 f1 f2 f3 f4 f5;obtain⟨⟨p0,p1,p2,p3,p4,p5⟩,⟨f0,f1,f2,f3,f4,f5⟩,-⟩:=zA6 G2.blk;go_wp2_with fail;refine hsk3.mono ?_;rintro e w3 ⟨rfl,hk3⟩;have G4:=G3.go E hRw hXw hk3 hlt1;have hnn:=zBW W0 R B ts en (n+1+1) 1 9 w3 E G4.st;rw[hnum] at hnn;unfold zDo at hnn;clear hsk3 hsk hone G3;go_wp2_with fail;refine hnn.mono ?_;rintro e w4 ⟨rfl,hk4⟩;have G5:=G4.go E hRw hXw hk4 hlt2;have G6:=G5.size E hRw hXw (-k);obtain⟨⟨q0,q1,q2,q3,q4,q5⟩,⟨y0,y1,y2,y3,y4,y5⟩,xl5⟩:=zA6 G5.blk;obtain⟨⟨s0,s1,s2,s3,s4,s5⟩,⟨t0,t1,t2,t3,t4,t5⟩,xl6⟩:=zA6 G6.res;obtain⟨⟨i0,i1,i2,i3,i4,i5⟩,-,xl7⟩:=zA6 G6.blk;go_wp2;refine kAi (zAg Tryz.results180 _ _ w.heap.size 31 _ (0,0) _ rfl (fin6 _ _ _ _ _ _ G6.res) Tryz.underlying31 rfl zAV) rfl ⟨kCT,hlt2,_,rfl,?_,?_⟩
     ·exact (G6.val.set6 (fun k hk=>kAq hk.1) _ _ _ _ _ _).mono (fun k hk=>kAX hk.1)
     ·exact G6.took.set6 G6.res hne0 (kA2 _) _ _ _ _ _ _
   | false =>
    rw[kA9 kCW]
    cases hnum:numS ts en 0 9 (n+1) with
    | error p =>
     dsimp only;go_enter Tryz.func180,Tryz.ntmps180;go_wp2_with fail;refine hp0.mono ?_;rintro e w1 ⟨hn1,hn2,v,rfl,hx,hk⟩;obtain⟨v5,A5,n5,c5,rfl,rfl,_,_⟩:=hx.cells;obtain⟨hXw,G⟩:=Start.out w1 _ hx hk hn2;have hsk:=zAE R ts n en ⟨#[94]⟩ _ G.st.rdr few hs;unfold exV;go_wp2_with fail;refine hsk.mono ?_;rintro e w2 ⟨rfl,hk2⟩;have G2:=G.go E hRw hXw hk2 hlt;obtain⟨⟨p0,p1,p2,p3,p4,p5⟩,⟨f0,f1,f2,f3,f4,f5⟩,xl⟩:=zA6 G2.blk;have hone:=G2.val.one ⟨kCT,kCT⟩ ⟨7,z28,⟨#[]⟩,0,[x]⟩ rfl;have G3:=(G2.below ((kA3 _ w2).alloc (kA2 _) (.cells #[.int .i64 x.f0,.string x.f1.f0,.string x.f1.f1,.string x.f2,.int .i64 x.f3,.slice A5 n5 c5] 31))).store E hRw hXw hone;have hsk3:=zAQ R ts (n+1) en ⟨#[45]⟩ _ G3.st.rdr hlt hs2;simp only[set6,kB5,kAL,xl,z28] at G3 hsk3;clear p0 p1 p2 p3 p4 p5 f0 f1 f2 f3 f4 f5;obtain⟨⟨p0,p1,p2,p3,p4,p5⟩,⟨f0,f1,f2,f3,f4,f5⟩,-⟩:=zA6 G2.blk;go_wp2_with fail;refine hsk3.mono ?_;rintro e w3 ⟨rfl,hk3⟩;have G4:=G3.go E hRw hXw hk3 hlt;have hnn:=zBW W0 R B ts en (n+1) 0 9 w3 E G4.st;rw[hnum] at hnn;unfold zDo zAk at hnn;clear hsk3 hsk hone G3;go_wp2_with fail;refine hnn.mono ?_;rintro e w4 ⟨rfl,hg4⟩;go_wp2;exact⟨rfl,rfl,kA6 G4.took.grown hg4⟩
    | ok r =>
     obtain⟨k,n2⟩:=r;obtain⟨rfl,hlt2,hlo,hhi⟩:=numS_ok hnum;dsimp only;go_enter Tryz.func180,Tryz.ntmps180;go_wp2_with fail;refine hp0.mono ?_;rintro e w1 ⟨hn1,hn2,v,rfl,hx,hk⟩;obtain⟨v5,A5,n5,c5,rfl,rfl,_,_⟩:=hx.cells;obtain⟨hXw,G⟩:=Start.out w1 _ hx hk hn2;have hsk:=zAE R ts n en ⟨#[94]⟩ _ G.st.rdr few hs;unfold exV;go_wp2_with fail;refine hsk.mono ?_;rintro e w2 ⟨rfl,hk2⟩;have G2:=G.go E hRw hXw hk2 hlt;obtain⟨⟨p0,p1,p2,p3,p4,p5⟩,⟨f0,f1,f2,f3,f4,f5⟩,xl⟩:=zA6 G2.blk;have hone:=G2.val.one ⟨kCT,kCT⟩ ⟨7,z28,⟨#[]⟩,0,[x]⟩ rfl;have G3:=(G2.below ((kA3 _ w2).alloc (kA2 _) (.cells #[.int .i64 x.f0,.string x.f1.f0,.string x.f1.f1,.string x.f2,.int .i64 x.f3,.slice A5 n5 c5] 31))).store E hRw hXw hone;have hsk3:=zAQ R ts (n+1) en ⟨#[45]⟩ _ G3.st.rdr hlt hs2;simp only[set6,kB5,kAL,xl,z28] at G3 hsk3;clear p0 p1 p2 p3 p4 p5 f0 f1 f2 f3 f4 f5;obtain⟨⟨p0,p1,p2,p3,p4,p5⟩,⟨f0,f1,f2,f3,f4,f5⟩,-⟩:=zA6 G2.blk;go_wp2_with fail;refine hsk3.mono ?_;rintro e w3 ⟨rfl,hk3⟩;have G4:=G3.go E hRw hXw hk3 hlt;have hnn:=zBW W0 R B ts en (n+1) 0 9 w3 E G4.st;rw[hnum] at hnn;unfold zDo at hnn;clear hsk3 hsk hone G3;go_wp2_with fail;refine hnn.mono ?_;rintro e w4 ⟨rfl,hk4⟩;have G5:=G4.go E hRw hXw hk4 hlt2;have G6:=G5.size E hRw hXw k;obtain⟨⟨q0,q1,q2,q3,q4,q5⟩,⟨y0,y1,y2,y3,y4,y5⟩,xl5⟩:=zA6 G5.blk;obtain⟨⟨s0,s1,s2,s3,s4,s5⟩,⟨t0,t1,t2,t3,t4,t5⟩,xl6⟩:=zA6 G6.res;obtain⟨⟨i0,i1,i2,i3,i4,i5⟩,-,xl7⟩:=zA6 G6.blk;go_wp2;refine kAi (zAg Tryz.results180 _ _ w.heap.size 31 _ (0,0) _ rfl (fin6 _ _ _ _ _ _ G6.res) Tryz.underlying31 rfl zAV) rfl ⟨kCT,hlt2,_,rfl,?_,?_⟩
     ·exact (G6.val.set6 (fun k hk=>kAq hk.1) _ _ _ _ _ _).mono (fun k hk=>kAX hk.1)
     ·exact G6.took.set6 G6.res hne0 (kA2 _) _ _ _ _ _ _
end Go.Proofs.YtjaobihcdkjmbaaGreatDoor
end
