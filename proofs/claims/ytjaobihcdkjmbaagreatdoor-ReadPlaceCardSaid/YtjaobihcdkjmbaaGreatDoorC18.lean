/- The law ReadPlace answers true for every argument; a part of its proof. -/
import Derived.Test.YtjaobihcdkjmbaaGreatDoorCa
import Derived.Test.YtjaobihcdkjmbaaGreatDoorCb
import Derived.Test.YtjaobihcdkjmbaaGreatDoorC0
import Derived.Test.YtjaobihcdkjmbaaGreatDoorC7
import Derived.Test.YtjaobihcdkjmbaaGreatDoorC12
set_option linter.unusedVariables false
set_option linter.unusedSimpArgs false
namespace Go.Proofs.YtjaobihcdkjmbaaGreatDoor.PReadTokens
end Go.Proofs.YtjaobihcdkjmbaaGreatDoor.PReadTokens
namespace Go.Proofs.YtjaobihcdkjmbaaGreatDoorW.PrintWords
end Go.Proofs.YtjaobihcdkjmbaaGreatDoorW.PrintWords
set_option maxRecDepth 100000
set_option maxHeartbeats 2000000
section
namespace Go.Proofs.YtjaobihcdkjmbaaGreatDoor
open Go.RowKit Go.Proofs.YtjaobihcdkjmbaaGreatDoorW.PrintWords Go.Proofs.YtjaobihcdkjmbaaGreatDoor.PReadTokens
theorem zFn (W0:World) (R B:Nat) (ts:List S47) (en:Nat) (chk:S28→Int) (ex:Nat→PR) (m now:Nat) (w:World) (E:Env W0 R B ts) (h:St W0 R B ts en now w) (hm:m≤now)
  (hp:Pars W0 R B ts en 252 (atomS ts en chk ex) m) (hex:Pars W0 R B ts en 134 ex (m+1)) :
  Calls Tryz.prog 217 #[.pointer (some ⟨R,0,none⟩)] w (zAi w R ts en now (zCl ts en chk ex now)):=by
 have hp0:=hp now (w.alloc zO) hm (h.below ((kA3 _ _).alloc (kA2 _) _));unfold zCl;have HX:=kA1 hex;clear hex;have few:=E.few;have hRw:=h.rdr.lt;have hne0:=kAq hRw
 cases hc:atomS ts en chk ex now with
 | error p =>
  rw[hc] at hp0;unfold zAi zAk at hp0;clear hc hp h;go_enter Tryz.func217,Tryz.ntmps217;go_wp2_with fail;refine hp0.mono ?_;rintro e w1 ⟨rfl,hg⟩;go_wp2;exact⟨rfl,rfl,kA9 (kAE w zO _) hg⟩
 | ok r =>
  obtain⟨x,n⟩:=r;show Calls _ _ _ _ (zAi w R ts en now (zBU ts en ex (ts.length+1) x n));generalize hresL:zBU ts en ex (ts.length+1) x n=res;have HresL:=kA1 hresL;clear hresL;rw[hc] at hp0;unfold zAi at hp0;have HP:=kA1 hp;have H:=kA1 h;have h0:St W0 R B ts en now (w.alloc zO):=h.below ((kA3 _ _).alloc (kA2 _) _);clear hp h hc;go_enter Tryz.func217,Tryz.ntmps217;go_wp2_with fail;refine hp0.mono ?_;rintro e w1 ⟨hn1,hn2,v,rfl,hx,hk⟩;obtain⟨v5,A5,n5,c5,rfl,rfl,_,_⟩:=hx.cells;unfold exV;go_wp2;have g1:Gath W0 R B ts en w w1.heap.size (w1.alloc (.cells #[.int .i64 x.f0,.string x.f1.f0,.string x.f1.f1,.string x.f2,.int .i64 x.f3,.slice A5 n5 c5] 31)) x n (.slice A5 n5 c5) :=
   ⟨((h0.took E hk hn2).below ((kA3 _ _).alloc (kA2 _) _)),hk.start.alloc _,zA4 _ _,(hx.old (fun k h1 h2=>⟨by simp[From] at h1;omega,kB1 h2⟩)).below ((kA3 _ _).alloc (kA2 _) _),
    (kA4 _ _ _ (zA5 (hk.blk (zA4 w zO) hne0))).trans (hk.blk (zA4 w zO) hne0)⟩
  have hXR:w1.heap.size≠R:=kAq hk.rdr.lt;have hXw:w.heap.size<w1.heap.size:=zA5 (hk.blk (zA4 w zO) hne0);generalize w1.heap.size=X at *;generalize hW:w1.alloc _=W at *;clear hW hk hx hp0 h0;have hres:=HresL.out;go_loopg [] (ts.length+1) (fun k wr=>∃x n v5,m<n∧now<n∧n≤ts.length∧ts.length<n+k∧Gath W0 R B ts en w X wr x n v5∧Hid (zBU ts en ex k x n=res))
  case atStart=>exact⟨x,n,_,kCW,hn1,hn2,kCW,g1,hres⟩
  case round =>
   clear g1 hres hn1 hn2;obtain⟨x,n,v5,hmn,hnn,hnl,hfuel,G,Hres⟩:=hrel;obtain⟨_,A5,n5,c5,h5,rfl,_,_⟩:=G.val.cells;obtain rfl:=zCf h5
   cases gk with
   | zero=>omega
   | succ gk =>
   cases h1:sk ts en n ⟨#[91]⟩ with
   | false =>
    have Hres':Hid (res=.ok (x,n)):=by
     have:=Hres.out;unfold zBU at this;rw[kAa kDd] at this;exact kA1 this.symm
    have hs:=zB1 R ts n en ⟨#[91]⟩ wr G.st.rdr hnl h1;go_wp2_with fail;refine hs.mono ?_;rintro e w1 ⟨rfl,hk1⟩;have G1:=G.go E hRw hXw hk1 hnl;obtain⟨⟨p0,p1,p2,p3,p4,p5⟩,-,xl⟩:=zA9 G1.blk;obtain⟨⟨q0,q1,q2,q3,q4,q5⟩,⟨f0,f1,f2,f3,f4,f5⟩,xl2⟩:=zA9 G1.res;go_wp2;rw[Hres'.out];refine kAg (zAe Tryz.results217 _ _ w.heap.size 31 _ (0,0) _ rfl (fin6 _ _ _ _ _ _ G1.res) Tryz.underlying31 rfl zB6) rfl ⟨hnn,hnl,_,rfl,?_,?_⟩
    ·exact (G1.val.set6 (fun k hk=>kAq hk.1) _ _ _ _ _ _).mono (fun k hk=>kAN hk.1)
    ·exact G1.took.set6 G1.res hne0 (kA2 _) _ _ _ _ _ _
   | true =>
    have hs:=zAF R ts n en ⟨#[91]⟩ wr G.st.rdr few h1;have hlt:=zAw h1
    cases hc:ex (n+1) with
    | error p =>
     have Hres':Hid (res=.error p):=by
      have:=Hres.out;unfold zBU at this;rw[kAb h1,hc] at this;exact kA1 this.symm
     go_wp2_with fail;refine hs.mono ?_;rintro e w1 ⟨rfl,hk1⟩;have G1:=G.go E hRw hXw hk1 hlt;obtain⟨⟨p0,p1,p2,p3,p4,p5⟩,-,xl⟩:=zA9 G1.blk;have G1d:=G1.below ((kA3 _ w1).drew);have hp1:=HX.out (n+1) _ kCW G1d.st;rw[hc] at hp1;unfold zAi zAk at hp1;clear hc;obtain⟨-,-,hR3,-,hRl⟩:=G1.st.rdr.cells;go_wp2_with fail;refine kAY (S:=(fun w'=>w'.cell? ⟨R,3,none⟩=some (.func (.func 134) #[] #[])∧w'.cell? ⟨X,0,none⟩=some (Value.int IntKind.i64 x.f0)∧w'.cell? ⟨X,1,none⟩=some (Value.string x.f1.f0)∧w'.cell? ⟨X,2,none⟩=some (Value.string x.f1.f1)∧w'.cell? ⟨X,3,none⟩=some (Value.string x.f2)∧w'.cell? ⟨X,4,none⟩=some (Value.int IntKind.i64 x.f3)∧w'.cell? ⟨X,5,none⟩=some (.slice A5 n5 c5))) kCX ⟨hR3,(zA9 G1d.blk).1⟩ (fun hHeld=>?_);refine kAu (i:=1) (v:=?v1c1) rfl kCX kCX kCX (fun _ _ _ h=>h) (Or.inl ⟨kD9,?hy1c1⟩) kD3 ?rest1c1
     case hy1c1=>(intro w hSw;(try dsimp only at hSw);go_simp;try (with_reducible rfl))
     try simp only[Act.put,kA0,List.set_cons_zero,List.set_cons_succ]
     refine kAu (i:=0) (v:=?v0c2) rfl kCX kCX kCX (fun _ _ _ h=>h) (Or.inl ⟨kD9,?hy0c2⟩) kD3 ?rest0c2
     case hy0c2=>(intro w hSw;(try dsimp only at hSw);go_simp;try (with_reducible rfl))
     try simp only[Act.put,kA0,List.set_cons_zero,List.set_cons_succ]
     refine kAu (i:=2) (v:=?v2c3) rfl kCX kCX kCX (fun _ _ _ h=>h) (Or.inl ⟨kD9,?hy2c3⟩) kD3 ?rest2c3
     case hy2c3=>(intro w hSw;(try dsimp only at hSw);go_simp;try (with_reducible rfl))
     try simp only[Act.put,kA0,List.set_cons_zero,List.set_cons_succ]
     refine kAu (i:=3) (v:=?v3c4) rfl kCX kCX kCX (fun _ _ _ h=>h) (Or.inl ⟨kD9,?hy3c4⟩) kD3 ?rest3c4
     case hy3c4=>(intro w hSw;(try dsimp only at hSw);go_simp;try (with_reducible rfl))
     try simp only[Act.put,kA0,List.set_cons_zero,List.set_cons_succ]
     refine kAu (i:=4) (v:=?v4c5) rfl kCX kCX kCX (fun _ _ _ h=>h) (Or.inl ⟨kD9,?hy4c5⟩) kD3 ?rest4c5
     case hy4c5=>(intro w hSw;(try dsimp only at hSw);go_simp;try (with_reducible rfl))
     try simp only[Act.put,kA0,List.set_cons_zero,List.set_cons_succ]
     refine kAu (i:=5) (v:=?v5c6) rfl kCX kCX kCX (fun _ _ _ h=>h) (Or.inl ⟨kD9,?hy5c6⟩) kD3 ?rest5c6
     case hy5c6=>(intro w hSw;(try dsimp only at hSw);go_simp;try (with_reducible rfl))
     try simp only[Act.put,kA0,List.set_cons_zero,List.set_cons_succ]
     refine kBM (rs:=[6]) kCX kCY ?_;refine kBC rfl (fun K hK=>?_) kBG;go_simp;go_wp2_with (go_at_call 134;refine hp1.mono ?_;rintro e w2 ⟨rfl,hg2⟩);rw[Hres'.out];exact⟨rfl,rfl,kA9 G1d.took.grown hg2⟩
    | ok r =>
     obtain⟨y,n2⟩:=r
     cases h2:sk ts en n2 ⟨#[93]⟩ with
     | true =>
      have hlt2:=zAw h2;have Hres':Hid (zBU ts en ex gk (twoX 9 x y) (n2+1)=res):=by
       have:=Hres.out;unfold zBU at this;rw[kAb h1,hc] at this;simp only[h2,if_true] at this;exact kA1 this
      go_wp2_with fail;refine hs.mono ?_;rintro e w1 ⟨rfl,hk1⟩;have G1:=G.go E hRw hXw hk1 hlt;obtain⟨⟨p0,p1,p2,p3,p4,p5⟩,-,xl⟩:=zA9 G1.blk;have G1d:=G1.below ((kA3 _ w1).drew);have hp1:=HX.out (n+1) _ kCW G1d.st;rw[hc] at hp1;unfold zAi at hp1;clear hc;obtain⟨-,-,hR3,-,hRl⟩:=G1.st.rdr.cells;go_wp2_with fail
      go_region_with ((first
       | (go_at_call 134;refine hp1.mono ?_;rintro e w2 ⟨hn1,hn2,vy,rfl,hy,hk2⟩;have G2:=G1d.go E hRw hXw hk2 hn2;have hw:=G1d.two 9 E hRw hXw hy hk2 hn2;obtain⟨⟨q0,q1,q2,q3,q4,q5⟩,-,lt2⟩:=zA9 G2.blk)
       | (go_at_call 161;refine hw.mono ?_;rintro e w3 ⟨u,A,N,C,rfl,rfl,G3,hu⟩;obtain⟨⟨r0,r1,r2,r3,r4,r5⟩,⟨f0,f1,f2,f3,f4,f5⟩,lt3⟩:=zA9 G3.blk;simp only[exV,twoX])))
      all_goals
       have G4:=G3.store E hRw hXw hu;have ht:=zBR R ts n2 en ⟨#[93]⟩ _ G4.st.rdr few h2;simp only[set6,twoX] at G4 ht;go_wp2_with fail;refine ht.mono ?_;rintro e w5 ⟨rfl,hk5⟩;have G5:=G4.go E hRw hXw hk5 hlt2;go_wp2;go_roundg gk
       case measure=>omega
       case rel=>exact⟨_,n2+1,_,kCW,kCW,hlt2,kCW,G5,Hres'⟩
     | false =>
      have Hres':Hid (res=.error (atP ts en n2)):=by
       have:=Hres.out;unfold zBU at this;rw[kAb h1,hc] at this;simp only[h2] at this;exact kA1 this.symm
      go_wp2_with fail;refine hs.mono ?_;rintro e w1 ⟨rfl,hk1⟩;have G1:=G.go E hRw hXw hk1 hlt;obtain⟨⟨p0,p1,p2,p3,p4,p5⟩,-,xl⟩:=zA9 G1.blk;have G1d:=G1.below ((kA3 _ w1).drew);have hp1:=HX.out (n+1) _ kCW G1d.st;rw[hc] at hp1;unfold zAi at hp1;clear hc;obtain⟨-,-,hR3,-,hRl⟩:=G1.st.rdr.cells;go_wp2_with fail
      go_region_with ((first
       | (go_at_call 134;refine hp1.mono ?_;rintro e w2 ⟨hn1,hn2,vy,rfl,hy,hk2⟩;have G2:=G1d.go E hRw hXw hk2 hn2;have hw:=G1d.two 9 E hRw hXw hy hk2 hn2;obtain⟨⟨q0,q1,q2,q3,q4,q5⟩,-,lt2⟩:=zA9 G2.blk)
       | (go_at_call 161;refine hw.mono ?_;rintro e w3 ⟨u,A,N,C,rfl,rfl,G3,hu⟩;obtain⟨⟨r0,r1,r2,r3,r4,r5⟩,⟨f0,f1,f2,f3,f4,f5⟩,lt3⟩:=zA9 G3.blk;simp only[exV,twoX])))
      all_goals
       have G4:=G3.store E hRw hXw hu;have ht:=zCx R ts n2 en ⟨#[93]⟩ _ G4.st.rdr hn2 h2;unfold zAk at ht;simp only[set6,twoX] at G4 ht;go_wp2_with fail;refine ht.mono ?_;rintro e w5 ⟨rfl,hb5⟩;go_wp2;rw[Hres'.out];exact⟨rfl,rfl,kAi G4.took.grown hb5⟩
end Go.Proofs.YtjaobihcdkjmbaaGreatDoor
end
