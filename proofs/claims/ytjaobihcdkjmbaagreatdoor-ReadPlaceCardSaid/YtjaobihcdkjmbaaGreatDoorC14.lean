/- The law ReadPlace answers true for every argument; a part of its proof. -/
import Derived.Test.YtjaobihcdkjmbaaGreatDoorCa
import Derived.Test.YtjaobihcdkjmbaaGreatDoorCb
import Derived.Test.YtjaobihcdkjmbaaGreatDoorC0
import Derived.Test.YtjaobihcdkjmbaaGreatDoorC7
import Derived.Test.YtjaobihcdkjmbaaGreatDoorC9
import Derived.Test.YtjaobihcdkjmbaaGreatDoorC12
set_option linter.unusedVariables false
set_option linter.unusedSimpArgs false
namespace Go.Proofs.YtjaobihcdkjmbaaGreatDoor.PReadTokens
end Go.Proofs.YtjaobihcdkjmbaaGreatDoor.PReadTokens
namespace Go.Proofs.YtjaobihcdkjmbaaGreatDoorW.PrintWords
end Go.Proofs.YtjaobihcdkjmbaaGreatDoorW.PrintWords
set_option maxRecDepth 100000
set_option maxHeartbeats 2000000
section
namespace Go.Proofs.YtjaobihcdkjmbaaGreatDoor
open Go.RowKit Go.Proofs.YtjaobihcdkjmbaaGreatDoorW.PrintWords Go.Proofs.YtjaobihcdkjmbaaGreatDoor.PReadTokens
theorem Ex.one {W:World} {S:Nat→Prop} {x:S31} {v5:Value} (h:Ex W S x (exV x v5)) (hS:S W.heap.size) (y:S31) (hy:y.f4=[x]) :
  Ex (W.alloc (.cells #[.int .i64 x.f0,.string x.f1.f0,.string x.f1.f1,.string x.f2,.int .i64 x.f3,v5] 31)) S y (exV y (.slice (some ⟨W.heap.size,0,none⟩) 1 1)):=by
 obtain⟨v,A,N,C,h1,h2,_,hM⟩:=h.cells;obtain rfl:=zCf h1;refine⟨_,rfl,?_⟩;rw[hy];exact lit_row (xs:=[x]) ((Reps.none _ _).snoc hM rfl) hS kCY
theorem sums_pos (W0:World) (R B:Nat) (ts:List S47) (en:Nat) (chk:S28→Int) (ex:Nat→PR) (m now:Nat) (w:World) (E:Env W0 R B ts) (h:St W0 R B ts en now w) (hm:m≤now)
  (hp:Pars W0 R B ts en 160 (zAZ ts en chk ex) m) (hneg:sk ts en now ⟨#[45]⟩=false) :
  Calls Tryz.prog 135 #[.pointer (some ⟨R,0,none⟩)] w (zAi w R ts en now (zD1 ts en chk ex now)):=by
 have few:=E.few;have hRw:=h.rdr.lt;have hne0:=kAq hRw;have hnow:now≤ts.length:=h.pos;have hsk:=zB1 R ts now en ⟨#[45]⟩ (w.alloc zO) (h.rdr.keep ((kA3 _ _).alloc (kA2 _) _)) h.pos hneg;have h0:St W0 R B ts en now (w.alloc zO):=h.below ((kA3 _ _).alloc (kA2 _) _);have HP:=kA1 hp;have H:=kA1 h;unfold zD1;rw[kAa (by rw[hneg];decide)];clear hneg hp h
 cases hc:zAZ ts en chk ex now with
 | error p =>
  go_enter Tryz.func135,Tryz.ntmps135;go_wp2_with fail;refine hsk.mono ?_;rintro e wk ⟨rfl,hkk⟩;have hp0:=HP.out now wk kCW (h0.took E hkk hnow);rw[hc] at hp0;unfold zAi zAk at hp0;clear hc;go_wp2_with fail;refine hp0.mono ?_;rintro e w1 ⟨rfl,hg⟩;go_wp2;exact⟨rfl,rfl,kA9 (hkk.start.grown) hg⟩
 | ok r =>
  obtain⟨x,n⟩:=r;show Calls _ _ _ _ (zAi w R ts en now (zB9 ts en chk ex (ts.length+1) x n));generalize hres:zB9 ts en chk ex (ts.length+1) x n=res;have HresL:=kA1 hres;clear hres;go_enter Tryz.func135,Tryz.ntmps135;go_wp2_with fail;refine hsk.mono ?_;rintro e wk ⟨rfl,hkk⟩;have hp0:=HP.out now wk kCW (h0.took E hkk hnow);rw[hc] at hp0;unfold zAi at hp0;clear hc;have hzk:=hkk.blk (zA4 w zO) hne0;go_wp2_with fail;refine hp0.mono ?_;rintro e w1 ⟨hn1,hn2,v,rfl,hx,hk⟩;obtain⟨v5,A5,n5,c5,rfl,rfl,_,_⟩:=hx.cells;unfold exV;have hX0:=hk.rdr.lt;have hz1:=hk.blk hzk hne0;have hXw:w.heap.size<w1.heap.size:=zA5 hz1;have hwk:w.heap.size<wk.heap.size:=zA5 hzk;have g1:Gath W0 R B ts en w w1.heap.size (w1.alloc (.cells #[.int .i64 x.f0,.string x.f1.f0,.string x.f1.f1,.string x.f2,.int .i64 x.f3,.slice A5 n5 c5] 31)) x n (.slice A5 n5 c5) :=
   ⟨(((h0.took E hkk hnow).took E hk hn2).below ((kA3 _ _).alloc (kA2 _) _)),(hkk.start.trans hk).alloc _,zA4 _ _,(hx.old (fun k h1 h2=>⟨by simp[From] at h1;omega,kB1 h2⟩)).below ((kA3 _ _).alloc (kA2 _) _),
    (kA4 _ _ _ (zA5 hz1)).trans hz1⟩
  have hXR:w1.heap.size≠R:=kAq hk.rdr.lt;obtain⟨⟨p0,p1,p2,p3,p4,p5⟩,⟨y0,y1,y2,y3,y4,y5⟩,xl⟩:=zA9 g1.blk;go_wp2;generalize w1.heap.size=X at *;generalize hW:w1.alloc _=W at *;clear hW hk hx hp0 h0 hkk hzk hz1 hX0 p0 p1 p2 p3 p4 p5 y0 y1 y2 y3 y4 y5 xl;have hres:=HresL.out;clear HresL;go_loopg [] (ts.length+1) (fun k wr=>∃x n v5,m<n∧now<n∧n≤ts.length∧ts.length<n+k∧Gath W0 R B ts en w X wr x n v5∧Hid (zB9 ts en chk ex k x n=res))
  case atStart=>exact⟨x,n,_,kCW,kCW,hn2,kCW,g1,hres⟩
  case round =>
   clear g1 hres hn1 hn2;obtain⟨x,n,v5,hmn,hnn,hnl,hfuel,G,Hres⟩:=hrel;obtain⟨_,A5,n5,c5,h5,rfl,_,_⟩:=G.val.cells;obtain rfl:=zCf h5
   cases gk with
   | zero=>omega
   | succ gk =>
   cases h1:sk ts en n ⟨#[43]⟩ with
   | true =>
    have hs:=zAF R ts n en ⟨#[43]⟩ wr G.st.rdr few h1;have hlt:=zAw h1
    cases hc:zAZ ts en chk ex (n+1) with
    | error p =>
     have Hres':Hid (res=.error p):=by
      have:=Hres.out;unfold zB9 at this;rw[kAb h1,hc] at this;exact kA1 this.symm
     go_wp2_with fail;refine hs.mono ?_;rintro e w1 ⟨rfl,hk1⟩;have G1:=G.go E hRw hXw hk1 hlt;obtain⟨⟨p0,p1,p2,p3,p4,p5⟩,-,xl⟩:=zA9 G1.blk;have G1d:=G1.below ((kA3 _ w1).drew);have hp1:=HP.out (n+1) _ kCW G1d.st;rw[hc] at hp1;unfold zAi at hp1;unfold zAk at hp1;clear hc;go_wp2_with fail;refine kAY (S:=(fun w'=>w'.cell? ⟨X,0,none⟩=some (Value.int IntKind.i64 x.f0)∧w'.cell? ⟨X,1,none⟩=some (Value.string x.f1.f0)∧w'.cell? ⟨X,2,none⟩=some (Value.string x.f1.f1)∧w'.cell? ⟨X,3,none⟩=some (Value.string x.f2)∧w'.cell? ⟨X,4,none⟩=some (Value.int IntKind.i64 x.f3)∧w'.cell? ⟨X,5,none⟩=some (.slice A5 n5 c5))) kCX (zA9 G1d.blk).1 (fun hHeld=>?_);refine kAu (i:=0) (v:=?v0c1) rfl kCX kCX kCX (fun _ _ _ h=>h) (Or.inl ⟨kD9,?hy0c1⟩) kD3 ?rest0c1
     case hy0c1=>(intro w hSw;(try dsimp only at hSw);go_simp;try (with_reducible rfl))
     try simp only[Act.put,kA0,List.set_cons_zero,List.set_cons_succ]
     refine kAu (i:=1) (v:=?v1c2) rfl kCX kCX kCX (fun _ _ _ h=>h) (Or.inl ⟨kD9,?hy1c2⟩) kD3 ?rest1c2
     case hy1c2=>(intro w hSw;(try dsimp only at hSw);go_simp;try (with_reducible rfl))
     try simp only[Act.put,kA0,List.set_cons_zero,List.set_cons_succ]
     refine kBM (rs:=[2]) kCX kCY ?_;refine kBC rfl (fun K hK=>?_) kBG;go_simp;go_wp2_with (go_at_call 160;refine hp1.mono ?_;rintro e w2 ⟨rfl,hg2⟩);rw[Hres'.out];exact⟨rfl,rfl,kA9 G1d.took.grown hg2⟩
    | ok r =>
     obtain⟨y,n2⟩:=r;have Hres':Hid (zB9 ts en chk ex gk (twoX 3 x y) n2=res):=by
      have:=Hres.out;unfold zB9 at this;rw[kAb h1,hc] at this;exact kA1 this
     go_wp2_with fail;refine hs.mono ?_;rintro e w1 ⟨rfl,hk1⟩;have G1:=G.go E hRw hXw hk1 hlt;obtain⟨⟨p0,p1,p2,p3,p4,p5⟩,-,xl⟩:=zA9 G1.blk;have G1d:=G1.below ((kA3 _ w1).drew);have hp1:=HP.out (n+1) _ kCW G1d.st;rw[hc] at hp1;unfold zAi at hp1;clear hc;go_wp2_with fail
     go_region_with ((first
      | (go_at_call 160;refine hp1.mono ?_;rintro e w2 ⟨hn1,hn2,vy,rfl,hy,hk2⟩;have G2:=G1d.go E hRw hXw hk2 hn2;have hw:=G1d.two 3 E hRw hXw hy hk2 hn2;obtain⟨⟨q0,q1,q2,q3,q4,q5⟩,-,lt2⟩:=zA9 G2.blk)
      | (go_at_call 161;refine hw.mono ?_;rintro e w3 ⟨u,A,N,C,rfl,rfl,G3,hu⟩;obtain⟨⟨r0,r1,r2,r3,r4,r5⟩,⟨f0,f1,f2,f3,f4,f5⟩,lt3⟩:=zA9 G3.blk;simp only[exV,twoX])))
     all_goals
      have G4:=G3.store E hRw hXw hu;go_wp2;go_roundg gk
      case measure=>omega
      case rel=>exact⟨_,n2,_,kCW,kCW,hn2,kCW,G4,Hres'⟩
   | false =>
    have hs:=zB1 R ts n en ⟨#[43]⟩ wr G.st.rdr hnl h1
    cases h2:sk ts en n ⟨#[45]⟩ with
    | true =>
     have hlt:=zAw h2
     cases hc:zAZ ts en chk ex (n+1) with
     | error p =>
      have Hres':Hid (res=.error p):=by
       have:=Hres.out;unfold zB9 at this;rw[kAa kDd,kAb h2,hc] at this;exact kA1 this.symm
      go_wp2_with fail;refine hs.mono ?_;rintro e w0 ⟨rfl,hk0⟩;have G0:=G.go E hRw hXw hk0 hnl;have hs2:=zAF R ts n en ⟨#[45]⟩ w0 G0.st.rdr few h2;go_wp2_with fail;refine hs2.mono ?_;rintro e w1 ⟨rfl,hk1⟩;have G1:=G0.go E hRw hXw hk1 hlt;obtain⟨⟨p0,p1,p2,p3,p4,p5⟩,-,xl⟩:=zA9 G1.blk;have G1d:=G1.below ((kA3 _ w1).drew);have hp1:=HP.out (n+1) _ kCW G1d.st;rw[hc] at hp1;unfold zAi at hp1;unfold zAk at hp1;clear hc;go_wp2_with fail;refine kAY (S:=(fun w'=>w'.cell? ⟨X,0,none⟩=some (Value.int IntKind.i64 x.f0)∧w'.cell? ⟨X,1,none⟩=some (Value.string x.f1.f0)∧w'.cell? ⟨X,2,none⟩=some (Value.string x.f1.f1)∧w'.cell? ⟨X,3,none⟩=some (Value.string x.f2)∧w'.cell? ⟨X,4,none⟩=some (Value.int IntKind.i64 x.f3)∧w'.cell? ⟨X,5,none⟩=some (.slice A5 n5 c5))) kCX (zA9 G1d.blk).1 (fun hHeld=>?_);refine kAu (i:=0) (v:=?v0c3) rfl kCX kCX kCX (fun _ _ _ h=>h) (Or.inl ⟨kD9,?hy0c3⟩) kD3 ?rest0c3
      case hy0c3=>(intro w hSw;(try dsimp only at hSw);go_simp;try (with_reducible rfl))
      try simp only[Act.put,kA0,List.set_cons_zero,List.set_cons_succ]
      refine kAu (i:=1) (v:=?v1c4) rfl kCX kCX kCX (fun _ _ _ h=>h) (Or.inl ⟨kD9,?hy1c4⟩) kD3 ?rest1c4
      case hy1c4=>(intro w hSw;(try dsimp only at hSw);go_simp;try (with_reducible rfl))
      try simp only[Act.put,kA0,List.set_cons_zero,List.set_cons_succ]
      refine kBM (rs:=[2]) kCX kCY ?_;refine kBC rfl (fun K hK=>?_) kBG;go_simp;go_wp2_with (go_at_call 160;refine hp1.mono ?_;rintro e w2 ⟨rfl,hg2⟩);rw[Hres'.out];exact⟨rfl,rfl,kA9 G1d.took.grown hg2⟩
     | ok r =>
      obtain⟨y,n2⟩:=r;have Hres':Hid (zB9 ts en chk ex gk (twoX 4 x y) n2=res):=by
       have:=Hres.out;unfold zB9 at this;rw[kAa kDd,kAb h2,hc] at this;exact kA1 this
      go_wp2_with fail;refine hs.mono ?_;rintro e w0 ⟨rfl,hk0⟩;have G0:=G.go E hRw hXw hk0 hnl;have hs2:=zAF R ts n en ⟨#[45]⟩ w0 G0.st.rdr few h2;go_wp2_with fail;refine hs2.mono ?_;rintro e w1 ⟨rfl,hk1⟩;have G1:=G0.go E hRw hXw hk1 hlt;obtain⟨⟨p0,p1,p2,p3,p4,p5⟩,-,xl⟩:=zA9 G1.blk;have G1d:=G1.below ((kA3 _ w1).drew);have hp1:=HP.out (n+1) _ kCW G1d.st;rw[hc] at hp1;unfold zAi at hp1;clear hc;go_wp2_with fail
      go_region_with ((first
       | (go_at_call 160;refine hp1.mono ?_;rintro e w2 ⟨hn1,hn2,vy,rfl,hy,hk2⟩;have G2:=G1d.go E hRw hXw hk2 hn2;have hw:=G1d.two 4 E hRw hXw hy hk2 hn2;obtain⟨⟨q0,q1,q2,q3,q4,q5⟩,-,lt2⟩:=zA9 G2.blk)
       | (go_at_call 161;refine hw.mono ?_;rintro e w3 ⟨u,A,N,C,rfl,rfl,G3,hu⟩;obtain⟨⟨r0,r1,r2,r3,r4,r5⟩,⟨f0,f1,f2,f3,f4,f5⟩,lt3⟩:=zA9 G3.blk;simp only[exV,twoX])))
      all_goals
       have G4:=G3.store E hRw hXw hu;go_wp2;go_roundg gk
       case measure=>omega
       case rel=>exact⟨_,n2,_,kCW,kCW,hn2,kCW,G4,Hres'⟩
    | false =>
     have Hres':Hid (res=.ok (x,n)):=by
      have:=Hres.out;unfold zB9 at this;rw[kAa kDd,kAa kDG] at this;exact kA1 this.symm
     go_wp2_with fail;refine hs.mono ?_;rintro e w0 ⟨rfl,hk0⟩;have G0:=G.go E hRw hXw hk0 hnl;have hs2:=zB1 R ts n en ⟨#[45]⟩ w0 G0.st.rdr hnl h2;go_wp2_with fail;refine hs2.mono ?_;rintro e w1 ⟨rfl,hk1⟩;have G1:=G0.go E hRw hXw hk1 hnl;obtain⟨⟨p0,p1,p2,p3,p4,p5⟩,-,xl⟩:=zA9 G1.blk;obtain⟨⟨q0,q1,q2,q3,q4,q5⟩,⟨f0,f1,f2,f3,f4,f5⟩,xl2⟩:=zA9 G1.res;go_wp2;rw[Hres'.out];refine kAg (zAe Tryz.results135 _ _ w.heap.size 31 _ (0,0) _ rfl (fin6 _ _ _ _ _ _ G1.res) Tryz.underlying31 rfl zB6) rfl ⟨hnn,hnl,_,rfl,?_,?_⟩
     ·exact (G1.val.set6 (fun k hk=>kAq hk.1) _ _ _ _ _ _).mono (fun k hk=>kAN hk.1)
     ·exact G1.took.set6 G1.res hne0 (kA2 _) _ _ _ _ _ _
theorem sums_neg (W0:World) (R B:Nat) (ts:List S47) (en:Nat) (chk:S28→Int) (ex:Nat→PR) (m now:Nat) (w:World) (E:Env W0 R B ts) (h:St W0 R B ts en now w) (hm:m≤now)
  (hp:Pars W0 R B ts en 160 (zAZ ts en chk ex) m) (hneg:sk ts en now ⟨#[45]⟩=true) :
  Calls Tryz.prog 135 #[.pointer (some ⟨R,0,none⟩)] w (zAi w R ts en now (zD1 ts en chk ex now)):=by
 have few:=E.few;have hRw:=h.rdr.lt;have hne0:=kAq hRw;have hnow:now+1≤ts.length:=zAw hneg;have hsk:=zAF R ts now en ⟨#[45]⟩ (w.alloc zO) (h.rdr.keep ((kA3 _ _).alloc (kA2 _) _)) few hneg;have h0:St W0 R B ts en now (w.alloc zO):=h.below ((kA3 _ _).alloc (kA2 _) _);have HP:=kA1 hp;have H:=kA1 h;unfold zD1;rw[kAb hneg];clear hneg hp h
 cases hc:zAZ ts en chk ex (now+1) with
 | error p =>
  go_enter Tryz.func135,Tryz.ntmps135;go_wp2_with fail;refine hsk.mono ?_;rintro e wk ⟨rfl,hkk⟩;have hp0:=HP.out (now+1) wk kCW (h0.took E hkk hnow);rw[hc] at hp0;unfold zAi zAk at hp0;clear hc;go_wp2_with fail;refine hp0.mono ?_;rintro e w1 ⟨rfl,hg⟩;go_wp2;exact⟨rfl,rfl,kA9 (hkk.start.grown) hg⟩
 | ok r =>
  obtain⟨x,n⟩:=r;show Calls _ _ _ _ (zAi w R ts en now (zB9 ts en chk ex (ts.length+1) ⟨2,z28,⟨#[]⟩,0,[x]⟩ n));generalize hres:zB9 ts en chk ex (ts.length+1) ⟨2,z28,⟨#[]⟩,0,[x]⟩ n=res;have HresL:=kA1 hres;clear hres;go_enter Tryz.func135,Tryz.ntmps135;go_wp2_with fail;refine hsk.mono ?_;rintro e wk ⟨rfl,hkk⟩;have hp0:=HP.out (now+1) wk kCW (h0.took E hkk hnow);rw[hc] at hp0;unfold zAi at hp0;clear hc;have hzk:=hkk.blk (zA4 w zO) hne0;go_wp2_with fail;refine hp0.mono ?_;rintro e w1 ⟨hn1,hn2,v,rfl,hx,hk⟩;obtain⟨v5,A5,n5,c5,rfl,rfl,_,_⟩:=hx.cells;unfold exV;have hX0:=hk.rdr.lt;have hz1:=hk.blk hzk hne0;have hXw:w.heap.size<w1.heap.size:=zA5 hz1;have hwk:w.heap.size<wk.heap.size:=zA5 hzk;have g1:Gath W0 R B ts en w w1.heap.size (w1.alloc (.cells #[.int .i64 x.f0,.string x.f1.f0,.string x.f1.f1,.string x.f2,.int .i64 x.f3,.slice A5 n5 c5] 31)) x n (.slice A5 n5 c5) :=
   ⟨(((h0.took E hkk hnow).took E hk hn2).below ((kA3 _ _).alloc (kA2 _) _)),(hkk.start.trans hk).alloc _,zA4 _ _,(hx.old (fun k h1 h2=>⟨by simp[From] at h1;omega,kB1 h2⟩)).below ((kA3 _ _).alloc (kA2 _) _),
    (kA4 _ _ _ (zA5 hz1)).trans hz1⟩
  have hXR:w1.heap.size≠R:=kAq hk.rdr.lt;obtain⟨⟨p0,p1,p2,p3,p4,p5⟩,⟨y0,y1,y2,y3,y4,y5⟩,xl⟩:=zA9 g1.blk;go_wp2;clear g1 p0 p1 p2 p3 p4 p5 y0 y1 y2 y3 y4 y5 xl;have hx1:=((hx.old (S':=Sx w w1.heap.size) (fun k h1 h2=>⟨by simp[From] at h1;omega,kB1 h2⟩)).below ((kA3 _ w1).alloc (kA2 _) (.cells #[.int .i64 2,.string ⟨#[]⟩,.string ⟨#[]⟩,.string ⟨#[]⟩,.int .i64 0,.slice (some ⟨w1.heap.size+1,0,none⟩) 1 1] 31))).one kCZ ⟨2,z28,⟨#[]⟩,0,[x]⟩ rfl;simp only[kAC] at hx1;have hbA:=(((kA3 w1.heap.size w1).alloc (kA2 _) (.cells #[.int .i64 2,.string ⟨#[]⟩,.string ⟨#[]⟩,.string ⟨#[]⟩,.int .i64 0,.slice (some ⟨w1.heap.size+1,0,none⟩) 1 1] 31)).alloc kCY (.cells #[.int .i64 x.f0,.string x.f1.f0,.string x.f1.f1,.string x.f2,.int .i64 x.f3,.slice A5 n5 c5] 31));have g1:Gath W0 R B ts en w w1.heap.size _ ⟨2,z28,⟨#[]⟩,0,[x]⟩ n (.slice (some ⟨w1.heap.size+1,0,none⟩) 1 1) :=
   ⟨((h0.took E hkk hnow).took E hk hn2).below hbA,(hkk.start.trans hk).below hbA,(kA4 _ _ _ kCY).trans (zA4 _ _),hx1,zAb hbA hz1⟩
  generalize w1.heap.size=X at *;generalize hW:World.alloc (World.alloc w1 _) _=W at *;clear hW hk hx hp0 h0 hkk hzk hz1 hX0 hx1 hbA;have hres:=HresL.out;clear HresL;go_loopg [] (ts.length+1) (fun k wr=>∃x n v5,m<n∧now<n∧n≤ts.length∧ts.length<n+k∧Gath W0 R B ts en w X wr x n v5∧Hid (zB9 ts en chk ex k x n=res))
  case atStart=>exact⟨⟨2,z28,⟨#[]⟩,0,[x]⟩,n,_,kCW,kCW,hn2,kCW,g1,hres⟩
  case round =>
   clear g1 hres hn1 hn2;obtain⟨x,n,v5,hmn,hnn,hnl,hfuel,G,Hres⟩:=hrel;obtain⟨_,A5,n5,c5,h5,rfl,_,_⟩:=G.val.cells;obtain rfl:=zCf h5
   cases gk with
   | zero=>omega
   | succ gk =>
   cases h1:sk ts en n ⟨#[43]⟩ with
   | true =>
    have hs:=zAF R ts n en ⟨#[43]⟩ wr G.st.rdr few h1;have hlt:=zAw h1
    cases hc:zAZ ts en chk ex (n+1) with
    | error p =>
     have Hres':Hid (res=.error p):=by
      have:=Hres.out;unfold zB9 at this;rw[kAb h1,hc] at this;exact kA1 this.symm
     go_wp2_with fail;refine hs.mono ?_;rintro e w1 ⟨rfl,hk1⟩;have G1:=G.go E hRw hXw hk1 hlt;obtain⟨⟨p0,p1,p2,p3,p4,p5⟩,-,xl⟩:=zA9 G1.blk;have G1d:=G1.below ((kA3 _ w1).drew);have hp1:=HP.out (n+1) _ kCW G1d.st;rw[hc] at hp1;unfold zAi at hp1;unfold zAk at hp1;clear hc;go_wp2_with fail;refine kAY (S:=(fun w'=>w'.cell? ⟨X,0,none⟩=some (Value.int IntKind.i64 x.f0)∧w'.cell? ⟨X,1,none⟩=some (Value.string x.f1.f0)∧w'.cell? ⟨X,2,none⟩=some (Value.string x.f1.f1)∧w'.cell? ⟨X,3,none⟩=some (Value.string x.f2)∧w'.cell? ⟨X,4,none⟩=some (Value.int IntKind.i64 x.f3)∧w'.cell? ⟨X,5,none⟩=some (.slice A5 n5 c5))) kCX (zA9 G1d.blk).1 (fun hHeld=>?_);refine kAu (i:=0) (v:=?v0c5) rfl kCX kCX kCX (fun _ _ _ h=>h) (Or.inl ⟨kD9,?hy0c5⟩) kD3 ?rest0c5
     case hy0c5=>(intro w hSw;(try dsimp only at hSw);go_simp;try (with_reducible rfl))
     try simp only[Act.put,kA0,List.set_cons_zero,List.set_cons_succ]
     refine kAu (i:=1) (v:=?v1c6) rfl kCX kCX kCX (fun _ _ _ h=>h) (Or.inl ⟨kD9,?hy1c6⟩) kD3 ?rest1c6
     case hy1c6=>(intro w hSw;(try dsimp only at hSw);go_simp;try (with_reducible rfl))
     try simp only[Act.put,kA0,List.set_cons_zero,List.set_cons_succ]
     refine kBM (rs:=[2]) kCX kCY ?_;refine kBC rfl (fun K hK=>?_) kBG;go_simp;go_wp2_with (go_at_call 160;refine hp1.mono ?_;rintro e w2 ⟨rfl,hg2⟩);rw[Hres'.out];exact⟨rfl,rfl,kA9 G1d.took.grown hg2⟩
    | ok r =>
     obtain⟨y,n2⟩:=r;have Hres':Hid (zB9 ts en chk ex gk (twoX 3 x y) n2=res):=by
      have:=Hres.out;unfold zB9 at this;rw[kAb h1,hc] at this;exact kA1 this
     go_wp2_with fail;refine hs.mono ?_;rintro e w1 ⟨rfl,hk1⟩;have G1:=G.go E hRw hXw hk1 hlt;obtain⟨⟨p0,p1,p2,p3,p4,p5⟩,-,xl⟩:=zA9 G1.blk;have G1d:=G1.below ((kA3 _ w1).drew);have hp1:=HP.out (n+1) _ kCW G1d.st;rw[hc] at hp1;unfold zAi at hp1;clear hc;go_wp2_with fail
     go_region_with ((first
      | (go_at_call 160;refine hp1.mono ?_;rintro e w2 ⟨hn1,hn2,vy,rfl,hy,hk2⟩;have G2:=G1d.go E hRw hXw hk2 hn2;have hw:=G1d.two 3 E hRw hXw hy hk2 hn2;obtain⟨⟨q0,q1,q2,q3,q4,q5⟩,-,lt2⟩:=zA9 G2.blk)
      | (go_at_call 161;refine hw.mono ?_;rintro e w3 ⟨u,A,N,C,rfl,rfl,G3,hu⟩;obtain⟨⟨r0,r1,r2,r3,r4,r5⟩,⟨f0,f1,f2,f3,f4,f5⟩,lt3⟩:=zA9 G3.blk;simp only[exV,twoX])))
     all_goals
      have G4:=G3.store E hRw hXw hu;go_wp2;go_roundg gk
      case measure=>omega
      case rel=>exact⟨_,n2,_,kCW,kCW,hn2,kCW,G4,Hres'⟩
   | false =>
    have hs:=zB1 R ts n en ⟨#[43]⟩ wr G.st.rdr hnl h1
    cases h2:sk ts en n ⟨#[45]⟩ with
    | true =>
     have hlt:=zAw h2
     cases hc:zAZ ts en chk ex (n+1) with
     | error p =>
      have Hres':Hid (res=.error p):=by
       have:=Hres.out;unfold zB9 at this;rw[kAa kDd,kAb h2,hc] at this;exact kA1 this.symm
      go_wp2_with fail;refine hs.mono ?_;rintro e w0 ⟨rfl,hk0⟩;have G0:=G.go E hRw hXw hk0 hnl;have hs2:=zAF R ts n en ⟨#[45]⟩ w0 G0.st.rdr few h2;go_wp2_with fail;refine hs2.mono ?_;rintro e w1 ⟨rfl,hk1⟩;have G1:=G0.go E hRw hXw hk1 hlt;obtain⟨⟨p0,p1,p2,p3,p4,p5⟩,-,xl⟩:=zA9 G1.blk;have G1d:=G1.below ((kA3 _ w1).drew);have hp1:=HP.out (n+1) _ kCW G1d.st;rw[hc] at hp1;unfold zAi at hp1;unfold zAk at hp1;clear hc;go_wp2_with fail;refine kAY (S:=(fun w'=>w'.cell? ⟨X,0,none⟩=some (Value.int IntKind.i64 x.f0)∧w'.cell? ⟨X,1,none⟩=some (Value.string x.f1.f0)∧w'.cell? ⟨X,2,none⟩=some (Value.string x.f1.f1)∧w'.cell? ⟨X,3,none⟩=some (Value.string x.f2)∧w'.cell? ⟨X,4,none⟩=some (Value.int IntKind.i64 x.f3)∧w'.cell? ⟨X,5,none⟩=some (.slice A5 n5 c5))) kCX (zA9 G1d.blk).1 (fun hHeld=>?_);refine kAu (i:=0) (v:=?v0c7) rfl kCX kCX kCX (fun _ _ _ h=>h) (Or.inl ⟨kD9,?hy0c7⟩) kD3 ?rest0c7
      case hy0c7=>(intro w hSw;(try dsimp only at hSw);go_simp;try (with_reducible rfl))
      try simp only[Act.put,kA0,List.set_cons_zero,List.set_cons_succ]
      refine kAu (i:=1) (v:=?v1c8) rfl kCX kCX kCX (fun _ _ _ h=>h) (Or.inl ⟨kD9,?hy1c8⟩) kD3 ?rest1c8
      case hy1c8=>(intro w hSw;(try dsimp only at hSw);go_simp;try (with_reducible rfl))
      try simp only[Act.put,kA0,List.set_cons_zero,List.set_cons_succ]
      refine kBM (rs:=[2]) kCX kCY ?_;refine kBC rfl (fun K hK=>?_) kBG;go_simp;go_wp2_with (go_at_call 160;refine hp1.mono ?_;rintro e w2 ⟨rfl,hg2⟩);rw[Hres'.out];exact⟨rfl,rfl,kA9 G1d.took.grown hg2⟩
     | ok r =>
      obtain⟨y,n2⟩:=r;have Hres':Hid (zB9 ts en chk ex gk (twoX 4 x y) n2=res):=by
       have:=Hres.out;unfold zB9 at this;rw[kAa kDd,kAb h2,hc] at this;exact kA1 this
      go_wp2_with fail;refine hs.mono ?_;rintro e w0 ⟨rfl,hk0⟩;have G0:=G.go E hRw hXw hk0 hnl;have hs2:=zAF R ts n en ⟨#[45]⟩ w0 G0.st.rdr few h2;go_wp2_with fail;refine hs2.mono ?_;rintro e w1 ⟨rfl,hk1⟩;have G1:=G0.go E hRw hXw hk1 hlt;obtain⟨⟨p0,p1,p2,p3,p4,p5⟩,-,xl⟩:=zA9 G1.blk;have G1d:=G1.below ((kA3 _ w1).drew);have hp1:=HP.out (n+1) _ kCW G1d.st;rw[hc] at hp1;unfold zAi at hp1;clear hc;go_wp2_with fail
      go_region_with ((first
       | (go_at_call 160;refine hp1.mono ?_;rintro e w2 ⟨hn1,hn2,vy,rfl,hy,hk2⟩;have G2:=G1d.go E hRw hXw hk2 hn2;have hw:=G1d.two 4 E hRw hXw hy hk2 hn2;obtain⟨⟨q0,q1,q2,q3,q4,q5⟩,-,lt2⟩:=zA9 G2.blk)
       | (go_at_call 161;refine hw.mono ?_;rintro e w3 ⟨u,A,N,C,rfl,rfl,G3,hu⟩;obtain⟨⟨r0,r1,r2,r3,r4,r5⟩,⟨f0,f1,f2,f3,f4,f5⟩,lt3⟩:=zA9 G3.blk;simp only[exV,twoX])))
      all_goals
       have G4:=G3.store E hRw hXw hu;go_wp2;go_roundg gk
       case measure=>omega
       case rel=>exact⟨_,n2,_,kCW,kCW,hn2,kCW,G4,Hres'⟩
    | false =>
     have Hres':Hid (res=.ok (x,n)):=by
      have:=Hres.out;unfold zB9 at this;rw[kAa kDd,kAa kDG] at this;exact kA1 this.symm
     go_wp2_with fail;refine hs.mono ?_;rintro e w0 ⟨rfl,hk0⟩;have G0:=G.go E hRw hXw hk0 hnl;have hs2:=zB1 R ts n en ⟨#[45]⟩ w0 G0.st.rdr hnl h2;go_wp2_with fail;refine hs2.mono ?_;rintro e w1 ⟨rfl,hk1⟩;have G1:=G0.go E hRw hXw hk1 hnl;obtain⟨⟨p0,p1,p2,p3,p4,p5⟩,-,xl⟩:=zA9 G1.blk;obtain⟨⟨q0,q1,q2,q3,q4,q5⟩,⟨f0,f1,f2,f3,f4,f5⟩,xl2⟩:=zA9 G1.res;go_wp2;rw[Hres'.out];refine kAg (zAe Tryz.results135 _ _ w.heap.size 31 _ (0,0) _ rfl (fin6 _ _ _ _ _ _ G1.res) Tryz.underlying31 rfl zB6) rfl ⟨hnn,hnl,_,rfl,?_,?_⟩
     ·exact (G1.val.set6 (fun k hk=>kAq hk.1) _ _ _ _ _ _).mono (fun k hk=>kAN hk.1)
     ·exact G1.took.set6 G1.res hne0 (kA2 _) _ _ _ _ _ _
theorem sums_walk (W0:World) (R B:Nat) (ts:List S47) (en:Nat) (chk:S28→Int) (ex:Nat→PR) (m:Nat) (E:Env W0 R B ts) (hp:Pars W0 R B ts en 160 (zAZ ts en chk ex) m) :
  Pars W0 R B ts en 135 (zD1 ts en chk ex) m:=fun now w hm h=>by
 cases hs:sk ts en now ⟨#[45]⟩ with
 | true=>exact sums_neg W0 R B ts en chk ex m now w E h hm hp hs
 | false=>exact sums_pos W0 R B ts en chk ex m now w E h hm hp hs
theorem extract_whole (s:ByteArray):s.extract 0 s.size=s:=by
 apply kC0;rw[← kBZ,kAS];exact kBp (kA2 _)
theorem chunks1_in (n l:Nat) (box:Addr) (s:ByteArray) (h0:0<s.size) (h1:s.size≤9) (W:World) (J:World→Prop) (hbox:W.cell? box=some (.string s))
  (hY:YieldAt Fence.wide (n-1) Tryz.prog l #[.string s] W fun e B=>e=.returned (.bool true)∧J B∧B.cell? box=some (.string s)∧B.frozen? box=false) :
  CallsIn Fence.wide n Tryz.prog 257 #[.func (.yield l) #[] #[],.pointer (some box)] W fun e W'=>e=.returned (.tuple #[])∧∃B,J B∧W'=B.setCell box (.string ⟨#[]⟩):=by
 have hD:Fence.wide.depth.isSome=false:=rfl;obtain⟨fn,tmps,assign,body,hy,hR⟩:=hY;have hmax:max 0 ((s.size:Int)-9)=0:=kCW
 have hex:=extract_whole s;have hex0:s.extract 0 0=⟨#[]⟩:=by apply kC0;rw[← kBZ,kAS];simp
 have hpos:decide (0<(s.size:Int))=true:=kA5 kCW;refine kCA Tryz.func257 rfl trivial ?_ rfl;simp only[Tryz.ntmps257,kAf,List.length_cons,List.length_nil,Nat.reduceAdd,Nat.reduceSub,kAV,Array.replicate_zero,kBh,kAP,List.nil_append,List.cons_append]
 gi_wp2
 gi_loopg [] 1 (fun k wr=>(k=1∧wr=W)∨(k=0∧∃B,J B∧wr=B.setCell box (.string ⟨#[]⟩)∧wr.cell? box=some (.string ⟨#[]⟩)))
 case atStart=>exact .inl ⟨rfl,rfl⟩
 case round =>
  rcases hrel with⟨rfl,rfl⟩ | ⟨rfl,B,hJ,rfl,hc⟩
  ·gi_wp2
   refine hR.mono ?_;rintro e B ⟨rfl,hJ,hb,hf⟩;clear hR hy hbox
   gi_wp2
   gi_roundg 0
   case measure=>omega
   case rel=>exact .inr ⟨rfl,B,hJ,rfl,World.cell?_setCell_same _ _ _ hb⟩
  ·gi_wp2
   exact kBc (kAX rfl _ _ _) rfl ⟨rfl,B,hJ,rfl⟩
def chunkPost (bb:Nat) (I:World→Prop) (W:World):Exit→Act→World→Prop
 | .normal,_,W'=>KeepsOthers W W'∧I W'∧W'.heap[bb]?=W.heap[bb]?
 | _,_,_=>False
theorem zFq {n:Nat} {g:Operand} {p:Tmp} {assign body:Code} {Q:Exit→Act→World→Prop} {a:Act} {w:World} {bb:Nat} {s:ByteArray} (tm:Array Value)
  (hg:a.eval g=.func (.func 257) #[] #[.pointer (some ⟨bb,0,none⟩)]) (h0:0<s.size) (h1:s.size≤9) (hbox:w.heap[bb]?=some (.cells #[.string s] 9 (0,0)))
  (I:World→Prop) (hI:∀A B k,I A→(k=w.heap.size+1∨k=bb)→A.grownBy B (some k)→I B)
  (hassign:∀(l:Nat) (A:World) (K:Act→World→Prop),K { tmps:=tm,defers:=[] } A →
   assign.wpIn (Fence.wide.inRound l) (n-1-1) Tryz.prog (Exit.then K (fun _ _ _=>False)) { tmps:=a.tmps.setIfInBounds p (.string s),defers:=[] } A)
  (hbody:∀(W0:World),w.grownBy W0 none→W0.heap.size=w.heap.size+2 →
   body.wpIn (Fence.wide.inRound (w.heap.size+1)) (n-1-1) Tryz.prog (chunkPost bb I W0) { tmps:=tm,defers:=[] } W0)
  (hdone:∀(W:World),I W→W.heap[w.heap.size]?=some (.deferred (some []))→Q .normal { a with defers:={ target:=.collected w.heap.size,args:=#[] } :: a.defers } W) :
  (Code.rangeFunc g #[p] assign body).wpIn Fence.wide n Tryz.prog Q a w:=by
 refine wpIn_rangeFunc ?_;intro fn _;obtain⟨rec,hrec⟩:∃rec:LoopState→Option Code→Loop,rec=fun st pe=>{ state:=st,pending:=pe,fn,tmps:=a.tmps,params:=#[p],assign,body,defers:=w.heap.size }:=⟨_,rfl⟩
 obtain⟨W1,hW1⟩:∃W1,(w.alloc (.deferred (some []))).alloc (.loop (rec .ready none))=W1:=⟨_,rfl⟩;have hsz1:W1.heap.size=w.heap.size+2:=by rw[← hW1];simp
 have hL1:W1.heap[w.heap.size+1]?=some (.loop (rec .ready none)):=by
  rw[← hW1];have:=kBP (w.alloc (.deferred (some []))) (.loop (rec .ready none));rwa [kAC] at this
 have hK1:W1.heap[w.heap.size]?=some (.deferred (some [])):=by
  rw[← hW1];exact (kA4 _ _ _ kCY).trans (kBP w _)
 have hbl:=zA5 hbox;have hg1:w.grownBy W1 none:=by rw[← hW1];exact zCr _ _ _ _
 have hb1:W1.heap[bb]?=some (.cells #[.string s] 9 (0,0)):=(hg1.block _ hbl kCY).trans hbox;refine⟨w.heap.size+1,[{ target:=.collected w.heap.size,args:=#[] }],W1,{ target:=.fn (.func 257) #[.pointer (some ⟨bb,0,none⟩)],args:=#[.func (.yield (w.heap.size+1)) #[] #[]] },W1,257,
  #[.func (.yield (w.heap.size+1)) #[] #[],.pointer (some ⟨bb,0,none⟩)],W1,?_,?_,?_,?_,zET,?_⟩
 ·rw[← hW1,hrec];exact run_enterLoop_outer _ _ _ _ _
 ·simp only[resolve,hg];simp[go_sem]
 ·intro f' _;trivial
 ·simp only[invoke];simp[go_sem]
 ·refine (chunks1_in (n-1) (w.heap.size+1) ⟨bb,0,none⟩ s h0 h1 W1
   (fun W=>I W∧W.heap[w.heap.size+1]?=some (.loop (rec .ready none))∧W.heap[w.heap.size]?=some (.deferred (some []))) (zA1 hb1 0) ?_).mono ?_
  ·have hy:=run_yield (P:=Tryz.prog) (args:=#[.string s]) hL1 (by rw[hrec];rfl);rw[hrec] at hy;refine⟨fn,_,assign,body,hy,roundIn_of_wpIn trivial ?_⟩;have hzip:(#[p].zip #[Value.string s]).foldl (fun tmps (x:Tmp×Value)=>tmps.setIfInBounds x.1 x.2) a.tmps=a.tmps.setIfInBounds p (.string s):=kCY
   show assign.wpIn _ _ _ _ { tmps:=(#[p].zip #[Value.string s]).foldl (fun tmps (x:Tmp×Value)=>tmps.setIfInBounds x.1 x.2) a.tmps,defers:=[] } _;rw[hzip];refine hassign _ _ _ ?_;refine⟨_,run_beginRound hL1 (by rw[hrec]),?_⟩;obtain⟨W0,hW0⟩:∃W0,W0=W1.putObj (w.heap.size+1) (.loop { rec .ready none with state:=.busy }):=⟨_,rfl⟩;show Code.wpIn _ _ _ body _ _ (W1.putObj (w.heap.size+1) (.loop { rec .ready none with state:=.busy }));rw[← hW0];have hgr0:W1.grownBy W0 (some (w.heap.size+1)):=by rw[hW0];exact zAy _ _ _
   have hz0:W0.heap.size=w.heap.size+2:=by rw[hW0];simp[hsz1]
   have hl2:W0.heap[w.heap.size+1]?=some (.loop { rec .ready none with state:=.busy }):=by rw[hW0];exact kBf (by simp[hsz1])
   have hk2:W0.heap[w.heap.size]?=some (.deferred (some [])):=(hgr0.block _ kCW kD2).trans hK1;have hb2:W0.heap[bb]?=some (.cells #[.string s] 9 (0,0)):=(hgr0.block _ kCW kD2).trans hb1;have hgw:w.grownBy W0 none:=⟨hgr0.os.trans hg1.os,hgr0.tape.trans hg1.tape,hgr0.output.trans hg1.output,kAz hg1.size hgr0.size,fun k hk _=>(hgr0.block k kCW kD2).trans (hg1.block k hk kCY)⟩;refine wpIn_mono (hbody W0 hgw hz0) ?_;rintro e a3 W3 hp
   cases e with
   | normal =>
    obtain⟨hk3,hi3,hbb⟩:=hp;have hl3:=hk3.same _ _ hl2 rfl;have hd3:=hk3.same _ _ hk2 rfl;have hr:=run_endRound (P:=Tryz.prog) none hl3;rw[hrec] at hr hl3;have hb3:(W3.putObj (w.heap.size+1) (.loop (rec .ready none))).heap[bb]?=some (.cells #[.string s] 9 (0,0)):=(kAp kCW).trans (hbb.trans hb2);rw[hrec] at hb3;refine⟨_,_,hr,rfl,⟨hI _ _ _ hi3 (.inl rfl) (zAy _ _ _),?_,(kAp kCW).trans hd3⟩,zA1 hb3 0,zA2 hb3 0⟩;rw[hrec];exact kBf (zA5 hl3)
   | ret=>exact hp.elim
   | exit id=>exact hp.elim
   | goto t=>exact hp.elim
   | panic ch=>exact hp.elim
   | outgrown=>exact hp.elim
  ·rintro e W2⟨rfl,B,⟨hi,hl,hk⟩,rfl⟩;have hl2:(B.setCell ⟨bb,0,none⟩ (.string ⟨#[]⟩)).heap[w.heap.size+1]?=some (.loop (rec .ready none)):=(kA7 _ _ _ _ kCZ).trans hl;have hk2:(B.setCell ⟨bb,0,none⟩ (.string ⟨#[]⟩)).heap[w.heap.size]?=some (.deferred (some [])):=(kA7 _ _ _ _ kCZ).trans hk;have he:=run_endLoop (P:=Tryz.prog) hl2 kDu;rw[hrec] at he;exact⟨none,_,he,hdone _ (hI _ _ _ (hI _ _ _ hi (.inr rfl) (kAh _ _ _ _)) (.inl rfl) (zAy _ _ _)) ((kAp kCW).trans hk2)⟩
end Go.Proofs.YtjaobihcdkjmbaaGreatDoor
end
