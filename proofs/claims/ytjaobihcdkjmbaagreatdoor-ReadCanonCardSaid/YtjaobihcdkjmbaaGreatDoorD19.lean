/- What can be read as an expression is printed as a text that reads as the same, and is printed as itself: for every argument; a part of its proof. -/
import Derived.Test.YtjaobihcdkjmbaaGreatDoorDa
import Derived.Test.YtjaobihcdkjmbaaGreatDoorDb
import Derived.Test.YtjaobihcdkjmbaaGreatDoorD0
import Derived.Test.YtjaobihcdkjmbaaGreatDoorD1
import Derived.Test.YtjaobihcdkjmbaaGreatDoorD7
import Derived.Test.YtjaobihcdkjmbaaGreatDoorD10
import Derived.Test.YtjaobihcdkjmbaaGreatDoorD11
import Derived.Test.YtjaobihcdkjmbaaGreatDoorD13
import Derived.Test.YtjaobihcdkjmbaaGreatDoorD14
import Derived.Test.YtjaobihcdkjmbaaGreatDoorD15
import Derived.Test.YtjaobihcdkjmbaaGreatDoorD16
import Derived.Test.YtjaobihcdkjmbaaGreatDoorD17
import Derived.Test.YtjaobihcdkjmbaaGreatDoorD18
set_option linter.unusedVariables false
set_option linter.unusedSimpArgs false
namespace Go.Proofs.YtjaobihcdkjmbaaGreatDoor.PReadTokens
end Go.Proofs.YtjaobihcdkjmbaaGreatDoor.PReadTokens
namespace Go.Proofs.YtjaobihcdkjmbaaGreatDoorW.PrintWords
end Go.Proofs.YtjaobihcdkjmbaaGreatDoorW.PrintWords
set_option maxRecDepth 100000
set_option maxHeartbeats 8000000
section
namespace Go.Proofs.YtjaobihcdkjmbaaGreatDoor
open Go.RowKit Go.Proofs.YtjaobihcdkjmbaaGreatDoorW.PrintWords Go.Proofs.YtjaobihcdkjmbaaGreatDoor.PReadTokens
abbrev Sx (w:World) (X:Nat):Nat→Prop:=fun k=>w.heap.size<k∧k≠X
structure Gath (W0:World) (R B:Nat) (ts:List S47) (en:Nat) (w:World) (X:Nat) (wr:World) (x:S31) (n:Nat) (v:Value):Prop where
 st:St W0 R B ts en n wr
 took:Took w R ts n en wr
 blk:wr.heap[X]?=some (.cells #[.int .i64 x.f0,.string x.f1.f0,.string x.f1.f1,.string x.f2,.int .i64 x.f3,v] 31 (0,0))
 val:Ex wr (Sx w X) x (exV x v)
 res:wr.heap[w.heap.size]?=some zO
theorem zCu {x:S31} {u v:Value} (h:exV x u=exV x v):u=v:=by unfold exV at h;simpa using h
theorem Gath.go {W0:World} {R B:Nat} {ts:List S47} {en:Nat} {w:World} {X:Nat} {wr w1:World} {x:S31} {n n1:Nat} {v:Value} (E:Env W0 R B ts) (hR:R<w.heap.size) (hX:w.heap.size<X)
  (G:Gath W0 R B ts en w X wr x n v) (k:Took wr R ts n1 en w1) (hn:n1≤ts.length):Gath W0 R B ts en w X w1 x n1 v :=
 ⟨G.st.took E k hn,G.took.trans k,k.blk G.blk kD4,G.val.grown k.grown (fun k hk=>by have:=hk.1;omega),k.blk G.res kD4⟩
theorem Gath.below {W0:World} {R B:Nat} {ts:List S47} {en:Nat} {w:World} {X:Nat} {wr w1:World} {x:S31} {n:Nat} {v:Value}
  (G:Gath W0 R B ts en w X wr x n v) (hb:Below wr.heap.size wr w1):Gath W0 R B ts en w X w1 x n v :=
 ⟨G.st.below hb,G.took.below hb,zAa hb G.blk,G.val.below hb,zAa hb G.res⟩
theorem Gath.store {W0:World} {R B:Nat} {ts:List S47} {en:Nat} {w:World} {X:Nat} {wr:World} {x y:S31} {n:Nat} {v u:Value} (E:Env W0 R B ts) (hR:R<w.heap.size) (hX:w.heap.size<X)
  (G:Gath W0 R B ts en w X wr x n v) (h:Ex wr (Sx w X) y (exV y u)):Gath W0 R B ts en w X (set6 wr X (.int .i64 y.f0) (.string y.f1.f0) (.string y.f1.f1) (.string y.f2) (.int .i64 y.f3) u) y n u:=by
 have hXR:X≠R:=kD4
 have hlow:=G.st.low.size;have hg:=zCW (X:=wr) X (.int .i64 y.f0) (.string y.f1.f0) (.string y.f1.f1) (.string y.f2) (.int .i64 y.f3) u;have own:=E.own;refine⟨⟨?_,?_,kAB G.st.base hg.size,G.st.pos⟩,G.took.set6 G.blk hXR (kAP hX) _ _ _ _ _ _,fin6 _ _ _ _ _ _ G.blk,h.set6 (fun k hk=>hk.2) _ _ _ _ _ _,zAj hg G.res kD4⟩
 ·exact (G.took.set6 G.blk hXR (kAP hX) (.int .i64 y.f0) (.string y.f1.f0) (.string y.f1.f1) (.string y.f2) (.int .i64 y.f3) u).rdr
 ·exact G.st.low.grown hg hlow (fun j e=>by injection e with e;omega)
theorem Gath.two {W0:World} {R B:Nat} {ts:List S47} {en:Nat} {w:World} {X:Nat} {wr w2:World} {x y:S31} {n n2:Nat} {v vy:Value} (op:Int) (E:Env W0 R B ts) (hR:R<w.heap.size) (hX:w.heap.size<X)
  (G:Gath W0 R B ts en w X wr x n v) (hy:Ex w2 (From wr.heap.size) y vy) (k:Took wr R ts n2 en w2) (hn:n2≤ts.length) :
  Calls Tryz.prog 161 #[.int .i64 op,exV x v,vy] w2 fun e w3=>∃u A N C,e=.returned (exV (twoX op x y) u)∧u=.slice A N C∧Gath W0 R B ts en w X w3 x n2 v∧Ex w3 (Sx w X) (twoX op x y) (exV (twoX op x y) u):=by
 have G2:=G.go E hR hX k hn;have hlt:=zA5 G.blk;have hsz:=k.grown.size;refine (two_calls op x y (exV x v) vy (Sx w X) w2 (fun j hj=>⟨kD4,kD4⟩) G2.val (hy.mono (fun j hj=>by simp only[From] at hj;exact⟨kD4,kD4⟩))).mono ?_;rintro e w3 ⟨u,rfl,hu,hb⟩;obtain⟨u5,A,N,C,rfl,rfl,_,_⟩:=hu.cells;exact⟨_,A,N,C,rfl,rfl,G2.below hb,hu⟩
theorem product_walk (W0:World) (R B:Nat) (ts:List S47) (en:Nat) (chk:S28→Int) (ex:Nat→PR) (m now:Nat) (w:World) (E:Env W0 R B ts) (h:St W0 R B ts en now w) (hm:m≤now)
  (hp:Pars W0 R B ts en 180 (zCR ts en chk ex) m) :
  Calls Tryz.prog 160 #[.pointer (some ⟨R,0,none⟩)] w (zAk w R ts en now (zAX ts en chk ex now)):=by
 have hp0:=hp now (w.alloc zO) hm (h.below ((kA3 _ _).alloc (kA2 _) _));unfold zAX;have few:=E.few;have hRw:=h.rdr.lt;have hne0:=kAs hRw
 cases hc:zCR ts en chk ex now with
 | error p =>
  rw[hc] at hp0;unfold zAk zAm at hp0;clear hc hp h;go_enter Tryz.func160,Tryz.ntmps160;go_wp2_with fail;refine hp0.mono ?_;rintro e w1 ⟨rfl,hg⟩;go_wp2;exact⟨rfl,rfl,kA7 (kAE w zO _) hg⟩
 | ok r =>
  obtain⟨x,n⟩:=r;rw[hc] at hp0;unfold zAk at hp0;have HP:=kA1 hp;have H:=kA1 h;have h0:St W0 R B ts en now (w.alloc zO):=h.below ((kA3 _ _).alloc (kA2 _) _);clear hp h hc;go_enter Tryz.func160,Tryz.ntmps160;go_wp2_with fail;refine hp0.mono ?_;rintro e w1 ⟨hn1,hn2,v,rfl,hx,hk⟩;obtain⟨v5,A5,n5,c5,rfl,rfl,_,_⟩:=hx.cells;unfold exV;go_wp2;have g1:Gath W0 R B ts en w w1.heap.size (w1.alloc (.cells #[.int .i64 x.f0,.string x.f1.f0,.string x.f1.f1,.string x.f2,.int .i64 x.f3,.slice A5 n5 c5] 31)) x n (.slice A5 n5 c5) :=
   ⟨((h0.took E hk hn2).below ((kA3 _ _).alloc (kA2 _) _)),hk.start.alloc _,zA4 _ _,(hx.old (fun k h1 h2=>⟨by simp[From] at h1;omega,kB8 h2⟩)).below ((kA3 _ _).alloc (kA2 _) _),
    (kA4 _ _ _ (zA5 (hk.blk (zA4 w zO) hne0))).trans (hk.blk (zA4 w zO) hne0)⟩
  have hXR:w1.heap.size≠R:=kAs hk.rdr.lt;have hXw:w.heap.size<w1.heap.size:=zA5 (hk.blk (zA4 w zO) hne0);generalize w1.heap.size=X at *;generalize hW:w1.alloc _=W at *;clear hW hk hx hp0 h0;generalize hres:zBA ts en chk ex (ts.length+1) x n=res;go_loopg [] (ts.length+1) (fun k wr=>∃x n v5,m<n∧now<n∧n≤ts.length∧ts.length<n+k∧Gath W0 R B ts en w X wr x n v5∧Hid (zBA ts en chk ex k x n=res))
  case atStart=>exact⟨x,n,_,kD4,hn1,hn2,kD4,g1,hres⟩
  case round =>
   clear g1 hres hn1 hn2;obtain⟨x,n,v5,hmn,hnn,hnl,hfuel,G,Hres⟩:=hrel;obtain⟨_,A5,n5,c5,h5,rfl,_,_⟩:=G.val.cells;obtain rfl:=zCu h5
   cases gk with
   | zero=>omega
   | succ gk =>
   cases h1:sk ts en n ⟨#[42]⟩ with
   | true =>
    have hs:=zAE R ts n en ⟨#[42]⟩ wr G.st.rdr few h1;have hlt:=zAv h1
    cases hc:zCR ts en chk ex (n+1) with
    | error p =>
     have Hres':Hid (res=.error p):=by
      have:=Hres.out;unfold zBA at this;rw[kAa h1,hc] at this;exact kA1 this.symm
     go_wp2_with fail;refine hs.mono ?_;rintro e w1 ⟨rfl,hk1⟩;have G1:=G.go E hRw hXw hk1 hlt;obtain⟨⟨p0,p1,p2,p3,p4,p5⟩,-,xl⟩:=zA6 G1.blk;have G1d:=G1.below ((kA3 _ w1).drew);have hp1:=HP.out (n+1) _ kD4 G1d.st;rw[hc] at hp1;unfold zAk at hp1;unfold zAm at hp1;clear hc;go_wp2_with fail;refine kB7 (S:=(fun w'=>w'.cell? ⟨X,0,none⟩=some (Value.int IntKind.i64 x.f0)∧w'.cell? ⟨X,1,none⟩=some (Value.string x.f1.f0)∧w'.cell? ⟨X,2,none⟩=some (Value.string x.f1.f1)∧w'.cell? ⟨X,3,none⟩=some (Value.string x.f2)∧w'.cell? ⟨X,4,none⟩=some (Value.int IntKind.i64 x.f3)∧w'.cell? ⟨X,5,none⟩=some (.slice A5 n5 c5))) kD5 (zA6 G1d.blk).1 (fun hHeld=>?_);refine kAx (i:=0) (v:=?v0c1) rfl kD5 kD5 kD5 (fun _ _ _ h=>h) (Or.inl ⟨kD9,?hy0c1⟩) kDb ?rest0c1
     case hy0c1=>(intro w hSw;(try dsimp only at hSw);go_simp;try (with_reducible rfl))
     try simp only[Act.put,kA0,List.set_cons_zero,List.set_cons_succ]
     refine kAx (i:=1) (v:=?v1c2) rfl kD5 kD5 kD5 (fun _ _ _ h=>h) (Or.inl ⟨kD9,?hy1c2⟩) kDb ?rest1c2
     case hy1c2=>(intro w hSw;(try dsimp only at hSw);go_simp;try (with_reducible rfl))
     try simp only[Act.put,kA0,List.set_cons_zero,List.set_cons_succ]
     refine kBO (rs:=[2]) kD5 kD6 ?_;refine kBF rfl (fun K hK=>?_) kBJ;go_simp;go_wp2_with (go_at_call 180;refine hp1.mono ?_;rintro e w2 ⟨rfl,hg2⟩);rw[Hres'.out];exact⟨rfl,rfl,kA7 G1d.took.grown hg2⟩
    | ok r =>
     obtain⟨y,n2⟩:=r;have Hres':Hid (zBA ts en chk ex gk (twoX 5 x y) n2=res):=by
      have:=Hres.out;unfold zBA at this;rw[kAa h1,hc] at this;exact kA1 this
     go_wp2_with fail;refine hs.mono ?_;rintro e w1 ⟨rfl,hk1⟩;have G1:=G.go E hRw hXw hk1 hlt;obtain⟨⟨p0,p1,p2,p3,p4,p5⟩,-,xl⟩:=zA6 G1.blk;have G1d:=G1.below ((kA3 _ w1).drew);have hp1:=HP.out (n+1) _ kD4 G1d.st;rw[hc] at hp1;unfold zAk at hp1;clear hc;go_wp2_with fail
     go_region_with ((first
      | (go_at_call 180;refine hp1.mono ?_;rintro e w2 ⟨hn1,hn2,vy,rfl,hy,hk2⟩;have G2:=G1d.go E hRw hXw hk2 hn2;have hw:=G1d.two 5 E hRw hXw hy hk2 hn2;obtain⟨⟨q0,q1,q2,q3,q4,q5⟩,-,lt2⟩:=zA6 G2.blk)
      | (go_at_call 161;refine hw.mono ?_;rintro e w3 ⟨u,A,N,C,rfl,rfl,G3,hu⟩;obtain⟨⟨r0,r1,r2,r3,r4,r5⟩,⟨f0,f1,f2,f3,f4,f5⟩,lt3⟩:=zA6 G3.blk;simp only[exV,twoX])))
     all_goals
      have G4:=G3.store E hRw hXw hu;go_wp2;go_roundg gk
      case measure=>omega
      case rel=>exact⟨_,n2,_,kD4,kD4,hn2,kD4,G4,Hres'⟩
   | false =>
    have hs:=zAT R ts n en ⟨#[42]⟩ wr G.st.rdr hnl h1
    cases h2:sk ts en n ⟨#[47]⟩ with
    | true =>
     have hlt:=zAv h2
     cases hc:zCR ts en chk ex (n+1) with
     | error p =>
      have Hres':Hid (res=.error p):=by
       have:=Hres.out;unfold zBA at this;rw[kA9 kDj,kAa h2,hc] at this;exact kA1 this.symm
      go_wp2_with fail;refine hs.mono ?_;rintro e w0 ⟨rfl,hk0⟩;have G0:=G.go E hRw hXw hk0 hnl;have hs2:=zAE R ts n en ⟨#[47]⟩ w0 G0.st.rdr few h2;go_wp2_with fail;refine hs2.mono ?_;rintro e w1 ⟨rfl,hk1⟩;have G1:=G0.go E hRw hXw hk1 hlt;obtain⟨⟨p0,p1,p2,p3,p4,p5⟩,-,xl⟩:=zA6 G1.blk;have G1d:=G1.below ((kA3 _ w1).drew);have hp1:=HP.out (n+1) _ kD4 G1d.st;rw[hc] at hp1;unfold zAk at hp1;unfold zAm at hp1;clear hc;go_wp2_with fail;refine kB7 (S:=(fun w'=>w'.cell? ⟨X,0,none⟩=some (Value.int IntKind.i64 x.f0)∧w'.cell? ⟨X,1,none⟩=some (Value.string x.f1.f0)∧w'.cell? ⟨X,2,none⟩=some (Value.string x.f1.f1)∧w'.cell? ⟨X,3,none⟩=some (Value.string x.f2)∧w'.cell? ⟨X,4,none⟩=some (Value.int IntKind.i64 x.f3)∧w'.cell? ⟨X,5,none⟩=some (.slice A5 n5 c5))) kD5 (zA6 G1d.blk).1 (fun hHeld=>?_);refine kAx (i:=0) (v:=?v0c3) rfl kD5 kD5 kD5 (fun _ _ _ h=>h) (Or.inl ⟨kD9,?hy0c3⟩) kDb ?rest0c3
      case hy0c3=>(intro w hSw;(try dsimp only at hSw);go_simp;try (with_reducible rfl))
      try simp only[Act.put,kA0,List.set_cons_zero,List.set_cons_succ]
      refine kAx (i:=1) (v:=?v1c4) rfl kD5 kD5 kD5 (fun _ _ _ h=>h) (Or.inl ⟨kD9,?hy1c4⟩) kDb ?rest1c4
      case hy1c4=>(intro w hSw;(try dsimp only at hSw);go_simp;try (with_reducible rfl))
      try simp only[Act.put,kA0,List.set_cons_zero,List.set_cons_succ]
      refine kBO (rs:=[2]) kD5 kD6 ?_;refine kBF rfl (fun K hK=>?_) kBJ;go_simp;go_wp2_with (go_at_call 180;refine hp1.mono ?_;rintro e w2 ⟨rfl,hg2⟩);rw[Hres'.out];exact⟨rfl,rfl,kA7 G1d.took.grown hg2⟩
     | ok r =>
      obtain⟨y,n2⟩:=r;have Hres':Hid (zBA ts en chk ex gk (twoX 6 x y) n2=res):=by
       have:=Hres.out;unfold zBA at this;rw[kA9 kDj,kAa h2,hc] at this;exact kA1 this
      go_wp2_with fail;refine hs.mono ?_;rintro e w0 ⟨rfl,hk0⟩;have G0:=G.go E hRw hXw hk0 hnl;have hs2:=zAE R ts n en ⟨#[47]⟩ w0 G0.st.rdr few h2;go_wp2_with fail;refine hs2.mono ?_;rintro e w1 ⟨rfl,hk1⟩;have G1:=G0.go E hRw hXw hk1 hlt;obtain⟨⟨p0,p1,p2,p3,p4,p5⟩,-,xl⟩:=zA6 G1.blk;have G1d:=G1.below ((kA3 _ w1).drew);have hp1:=HP.out (n+1) _ kD4 G1d.st;rw[hc] at hp1;unfold zAk at hp1;clear hc;go_wp2_with fail
      go_region_with ((first
       | (go_at_call 180;refine hp1.mono ?_;rintro e w2 ⟨hn1,hn2,vy,rfl,hy,hk2⟩;have G2:=G1d.go E hRw hXw hk2 hn2;have hw:=G1d.two 6 E hRw hXw hy hk2 hn2;obtain⟨⟨q0,q1,q2,q3,q4,q5⟩,-,lt2⟩:=zA6 G2.blk)
       | (go_at_call 161;refine hw.mono ?_;rintro e w3 ⟨u,A,N,C,rfl,rfl,G3,hu⟩;obtain⟨⟨r0,r1,r2,r3,r4,r5⟩,⟨f0,f1,f2,f3,f4,f5⟩,lt3⟩:=zA6 G3.blk;simp only[exV,twoX])))
      all_goals
       have G4:=G3.store E hRw hXw hu;go_wp2;go_roundg gk
       case measure=>omega
       case rel=>exact⟨_,n2,_,kD4,kD4,hn2,kD4,G4,Hres'⟩
    | false =>
     have Hres':Hid (res=.ok (x,n)):=by
      have:=Hres.out;unfold zBA at this;rw[kA9 kDj,kA9 kDB] at this;exact kA1 this.symm
     go_wp2_with fail;refine hs.mono ?_;rintro e w0 ⟨rfl,hk0⟩;have G0:=G.go E hRw hXw hk0 hnl;have hs2:=zAT R ts n en ⟨#[47]⟩ w0 G0.st.rdr hnl h2;go_wp2_with fail;refine hs2.mono ?_;rintro e w1 ⟨rfl,hk1⟩;have G1:=G0.go E hRw hXw hk1 hnl;obtain⟨⟨p0,p1,p2,p3,p4,p5⟩,-,xl⟩:=zA6 G1.blk;obtain⟨⟨q0,q1,q2,q3,q4,q5⟩,⟨f0,f1,f2,f3,f4,f5⟩,xl2⟩:=zA6 G1.res;go_wp2;rw[Hres'.out];refine kAi (zAg Tryz.results160 _ _ w.heap.size 31 _ (0,0) _ rfl (fin6 _ _ _ _ _ _ G1.res) Tryz.underlying31 rfl zB6) rfl ⟨hnn,hnl,_,rfl,?_,?_⟩
     ·exact (G1.val.set6 (fun k hk=>kAs hk.1) _ _ _ _ _ _).mono (fun k hk=>kAP hk.1)
     ·exact G1.took.set6 G1.res hne0 (kA2 _) _ _ _ _ _ _
theorem num_ne6 {w:World} {g:Addr} {n a b:Int} {s t:ByteArray} {R:Nat} {B B2:Option Addr} {l c l2 c2:Nat} {ty:TypeId} (hg:w.cell? g=some (.int .u32 n)) (hR:w.heap[R]?=some (.cells #[.string s,.string t,.int .i64 a,.slice B l c,.int .i64 b,.slice B2 l2 c2] ty (0,0))):g.block≠R:=by
 intro e;obtain⟨b,o,sp⟩:=g;simp only at e;subst e;simp only[World.cell?,hR] at hg
 match o with
 | 0=>simp at hg
 | 1=>simp at hg
 | 2=>simp at hg
 | 3=>simp at hg
 | 4=>simp at hg
 | 5=>simp at hg
 | k+6=>simp at hg
theorem size236:(Tryz.prog.info? 236).map (·.size)=some 6:=kD5
def chkR (r:S28):Int :=
 if zC0 r.f0=1∨zC0 r.f1=1∨negB r.f1=true∨r.f1=⟨#[48]⟩ then 1
 else if zC0 r.f0≠0∨zC0 r.f1≠0 then 13
 else if Int.gcd (numV r.f0) (numV r.f1)=1 then 0 else 1
def RPost (n:Int) (w:World) (e:Ending) (w':World):Prop:=Below w.heap.size w w'∧((n=0∧∃v,e=.returned v)∨(n≠0∧e=zBv 253 n))
theorem wchk_three (s:ByteArray):zC0 s=0∨zC0 s=1∨zC0 s=13:=by
 unfold zC0;split
 ·exact .inr (.inl rfl)
 ·split
  ·exact .inr (.inr rfl)
  ·exact .inl rfl
theorem zFz {s:ByteArray} (h:zC0 s≠1):zCp s=true:=by
 unfold zC0 at h;by_cases hf:zCp s=false
 ·rw[kAa hf] at h;exact absurd rfl h
 ·simpa using hf
theorem zDb {s:ByteArray} (h:zC0 s=0):zCp s=true∧(zBr s).size≤400:=by
 have hf:=zFz (s:=s) (by rw[h];omega);refine⟨hf,?_⟩;unfold zC0 at h;rw[kA9 (by rw[hf];simp)] at h;by_cases hl:400<(zBr s).size
 ·rw[kAa hl] at h;cases h
 ·omega
theorem zFv {s:ByteArray} (h:zCp s=true):0<s.size:=by
 have h1:=(zDk h).2;have h2:=zDz s;omega
theorem neg_head {s:ByteArray} (h:0<s.size):(((s[0]'h).toNat:Int)==45)=negB s:=by
 unfold negB;have hl:s.data.toList=s[0]'h :: s.data.toList.tail:=by
  cases he:s.data.toList with
  | nil=>exfalso;have:s.size=s.data.toList.length:=rfl;rw[he,List.length_nil] at this;omega
  | cons c r =>
   have e:s[0]'h=c:=by show s.data.toList[0]'h=c;simp[he]
   rw[e];rfl
 rw[hl];simp only;rw[kCA,kAA,kAA,← kCY];constructor
 ·intro h;show (s[0]).toNat=45;omega
 ·intro h;rw[h];rfl
theorem str_eq (t u:ByteArray):(t.toList==u.toList)=decide (t=u):=by
 rw[kCA,kAA,kAU,kAV,kAV];constructor
 ·intro h;apply kBG;exact kBx.1 h
 ·intro h;rw[h]
theorem LN_step {W W':World} {z:Int} {v:Value} {R:Nat} {s t:ByteArray} {a b:Int} {B B2:Option Addr} {l c l2 c2:Nat} {ty:TypeId} (h:LN W z v)
  (hR:W.heap[R]?=some (.cells #[.string s,.string t,.int .i64 a,.slice B l c,.int .i64 b,.slice B2 l2 c2] ty (0,0))) (hk:∀p:Addr,p.block≠R→W'.cell? p=W.cell? p):LN W' z v:=by
 obtain⟨m,A,c',h1,h2,h3,h4,h5⟩:=h.out;refine⟨m,A,c',h1,h2,h3,?_,h5⟩;by_cases hn:m=[]
 ·subst hn;exact⟨h4.1,kD6,fun h=>by simp at h⟩
 ·obtain⟨ad,rfl,hc⟩:=C_cells h4 hn;refine zEo kD4 (fun i hi=>?_);have h6:=hc i hi;rw[hk _ (num_ne6 h6 hR)];exact h6
theorem rtaken_calls (s t:ByteArray) (hs:s.size≤9223372036854775807) (ht:t.size≤9223372036854775807) (w:World) (hS:Start w) :
  Calls Tryz.prog 168 #[.agg #[.string s,.string t]] w (RPost (chkR ⟨s,t⟩) w):=by
 have HC1:Hid (∀w,Start w→Calls Tryz.prog 187 #[.string s] w fun e w'=>e=.returned (.int .i64 (zC0 s))∧Below w.heap.size w w'):=kA1 (fun w hS=>zFf s hs w hS);have HC2:Hid (∀w,Start w→Calls Tryz.prog 187 #[.string t] w fun e w'=>e=.returned (.int .i64 (zC0 t))∧Below w.heap.size w w'):=kA1 (fun w hS=>zFf t ht w hS);have HS:=kA1 hS;obtain⟨n,hn⟩:∃n,n=chkR ⟨s,t⟩:=⟨_,rfl⟩;rw[← hn];unfold chkR at hn;simp only at hn;have h3s:=wchk_three s;have h3t:=wchk_three t;have hfs:=@zDb s;have hft:=@zDb t;have hft1:=@zFz t;obtain⟨a,ha⟩:∃a,a=zC0 s:=⟨_,rfl⟩;obtain⟨b,hb⟩:∃b,b=zC0 t:=⟨_,rfl⟩;rw[← ha] at HC1 hn h3s hfs;rw[← hb] at HC2 hn h3t hft hft1;clear ha hb hS;replace hn:=kA1 hn;replace hfs:=kA1 hfs;replace hft:=kA1 hft;replace hft1:=kA1 hft1;obtain⟨X,hX⟩:∃X,X=((w.alloc (.cells #[.string s,.string t] 28)).alloc (.cells #[.string ⟨#[]⟩,.string ⟨#[]⟩,.int .i64 0,.slice none 0 0,.int .i64 0,.slice none 0 0] 236)):=⟨_,rfl⟩;have hb0:Below w.heap.size w X:=by rw[hX];exact ((kA3 _ w).alloc (kA2 _) _).alloc kD6 _
 have h0:X.heap[w.heap.size]?=some (.cells #[.string s,.string t] 28 (0,0)):=by rw[hX];exact (kA4 _ _ _ kD6).trans (zA4 w _)
 have h1:X.heap[w.heap.size+1]?=some (.cells #[.string ⟨#[]⟩,.string ⟨#[]⟩,.int .i64 0,.slice none 0 0,.int .i64 0,.slice none 0 0] 236 (0,0)):=by rw[hX];exact zAD _ _ _ kD6
 go_enter Tryz.func168,Tryz.ntmps168;go_wp2_with fail;rw[← hX];clear hX;have K:X.drew.cell? ⟨w.heap.size,0,none⟩=some (.string s)∧X.drew.cell? ⟨w.heap.size,1,none⟩=some (.string t):=⟨zA1 h0 0,zA1 h0 1⟩;have J0:X.drew.heap[w.heap.size]?=some (.cells #[.string s,.string t] 28 (0,0)):=h0;have J1:X.drew.heap[w.heap.size+1]?=some (.cells #[.string ⟨#[]⟩,.string ⟨#[]⟩,.int .i64 0,.slice none 0 0,.int .i64 0,.slice none 0 0] 236 (0,0)):=h1;have BW:=hb0.drew;clear h0 h1 hb0
 go_region_held3 (fun w':World=>w'.cell? ⟨w.heap.size,0,none⟩=some (.string s)∧w'.cell? ⟨w.heap.size,1,none⟩=some (.string t)) (first | with_reducible exact K) (first
  | (go_at_call 187;refine (HC1.out _ (HS.out.below BW)).mono ?_;rintro e wq ⟨rfl,hq⟩;clear HC1;have K:=And.intro (zA0 hq K.1) (zA0 hq K.2);have J0:=zAa hq J0;have J1:=zAa hq J1;have BW:=BW.trans (hq.mono BW.size))
  | (go_at_call 187;refine (HC2.out _ (HS.out.below BW)).mono ?_;rintro e wq ⟨rfl,hq⟩;clear HC2;have K:=And.intro (zA0 hq K.1) (zA0 hq K.2);have J0:=zAa hq J0;have J1:=zAa hq J1;have BW:=BW.trans (hq.mono BW.size)))
 have q0:=K.1;have q1:=K.2;have q2:=zA5 J0;clear K;have hy1:=kA1 (zG6 1);have hy13:=kA1 (zG6 13);unfold zBv at hy1 hy13;by_cases ha1:a=1
 ·have e1:(a==1)=true:=by rw[ha1];rfl
  have hn1:n=1:=by rw[hn.out,kAa (.inl ha1)]
  clear ha1 h3s;go_wp2_with (go_at_call 188;refine (hy1.out _).mono ?_;rintro e wr ⟨rfl,hr⟩;subst wr);exact⟨rfl,BW,.inr ⟨kD4,rfl⟩⟩
 have e1:(a==1)=false:=zAF ha1;by_cases hb1:b=1
 ·have e2:(b==1)=true:=by rw[hb1];rfl
  have hn1:n=1:=by rw[hn.out,kAa (.inr (.inl hb1))]
  clear hb1 h3t ha1 h3s;go_wp2_with (go_at_call 188;refine (hy1.out _).mono ?_;rintro e wr ⟨rfl,hr⟩;subst wr);exact⟨rfl,BW,.inr ⟨kD4,rfl⟩⟩
 have e2:(b==1)=false:=zAF hb1;have htf:=hft1.out hb1;have htp:=zFv htf;have hth:=neg_head htp
 cases hng:negB t
 case true =>
  rw[hng] at hth;have hn1:n=1:=by rw[hn.out,kAa (.inr (.inr (.inl hng)))]
  clear hb1 h3t ha1 h3s htf hng;go_wp2_with (go_at_call 188;refine (hy1.out _).mono ?_;rintro e wr ⟨rfl,hr⟩;subst wr);exact⟨rfl,BW,.inr ⟨kD4,rfl⟩⟩
 rw[hng] at hth;have hse:=str_eq t ⟨#[48]⟩;have h48:(⟨#[48]⟩:ByteArray).toList=[48]:=by rw[kAV]
 rw[h48] at hse;have hse2:(t==⟨#[48]⟩)=decide (t=⟨#[48]⟩):=by rw[beq_toListBytes];exact str_eq t _
 by_cases htz:t=⟨#[48]⟩
 ·have hn1:n=1:=by rw[hn.out,kAa (.inr (.inr (.inr htz)))]
  rw[kA8 htz] at hse hse2;clear hb1 h3t ha1 h3s htf hng htz h48;go_wp2_with (go_at_call 188;refine (hy1.out _).mono ?_;rintro e wr ⟨rfl,hr⟩;subst wr);exact⟨rfl,BW,.inr ⟨kD4,rfl⟩⟩
 rw[kAc htz] at hse hse2;have hno:¬(a=1∨b=1∨negB t=true∨t=⟨#[48]⟩):=by
  rintro (h | h | h | h)
  ·exact ha1 h
  ·exact hb1 h
  ·rw[hng] at h;cases h
  ·exact htz h
 have hn2:=kA1 (hn.out.trans (kA9 hno));clear hno hng htz h48;have hnc:=kA1 (zF8 1);by_cases ha0:a=0
 case neg =>
  have e3:(a != 0)=true:=by simp[ha0]
  have hn1:n=13:=by rw[hn2.out,kAa (.inl ha0)]
  clear ha1 hb1 h3s h3t htf ha0;go_wp2_with (first
   | (go_at_call 188;refine (hnc.out _).mono ?_;rintro e wr ⟨rfl,hr⟩;subst wr;clear hnc)
   | (go_at_call 188;refine (hy13.out _).mono ?_;rintro e wr ⟨rfl,hr⟩;subst wr))
  exact⟨rfl,BW,.inr ⟨kD4,rfl⟩⟩
 by_cases hb0:b=0
 case neg =>
  have e3:(a != 0)=false:=by simp[ha0]
  have e4:(b != 0)=true:=by simp[hb0]
  have hn1:n=13:=by rw[hn2.out,kAa (.inr hb0)]
  clear ha1 hb1 h3s h3t htf ha0 hb0;go_wp2_with (first
   | (go_at_call 188;refine (hnc.out _).mono ?_;rintro e wr ⟨rfl,hr⟩;subst wr;clear hnc)
   | (go_at_call 188;refine (hy13.out _).mono ?_;rintro e wr ⟨rfl,hr⟩;subst wr))
  exact⟨rfl,BW,.inr ⟨kD4,rfl⟩⟩
 have e3:(a != 0)=false:=by simp[ha0]
 have e4:(b != 0)=false:=by simp[hb0]
 obtain⟨sf,sl⟩:=hfs.out ha0;obtain⟨tf,tl⟩:=hft.out hb0;have hn3:=kA1 (hn2.out.trans (kA9 (by rintro (h | h)<;>omega)));obtain⟨x,hx⟩:∃x,x=numV s:=⟨_,rfl⟩;obtain⟨y,hy⟩:∃y,y=numV t:=⟨_,rfl⟩;rw[← hx,← hy] at hn3;obtain⟨sx,hsx⟩:∃k,k=Int.sign x:=⟨_,rfl⟩;obtain⟨sy,hsy⟩:∃k,k=Int.sign y:=⟨_,rfl⟩;have HR1:Hid (∀w,Calls Tryz.prog 189 #[.string s] w fun e w'=>∃A m c,e=.returned (.agg #[.int .i64 sx,.slice A m c])∧LN w' x (.agg #[.int .i64 sx,.slice A m c])∧Below w.heap.size w w'):=kA1 (fun w =>
  (kBp.1 (read_LN 9 s (zDk sf).1 (zDk sf).2 kD4 w)).mono fun _ _ ⟨v,h1,h2,h3⟩=>by
   rw[← hx] at h2;obtain⟨l,A,c,rfl,_⟩:=h2.out;rw[← hsx] at h1 h2;exact⟨A,l.length,c,h1,h2,h3⟩)
 have HR2:Hid (∀w,Calls Tryz.prog 189 #[.string t] w fun e w'=>∃A m c,e=.returned (.agg #[.int .i64 sy,.slice A m c])∧LN w' y (.agg #[.int .i64 sy,.slice A m c])∧Below w.heap.size w w'):=kA1 (fun w =>
  (kBp.1 (read_LN 9 t (zDk tf).1 (zDk tf).2 kD4 w)).mono fun _ _ ⟨v,h1,h2,h3⟩=>by
   rw[← hy] at h2;obtain⟨l,A,c,rfl,_⟩:=h2.out;rw[← hsy] at h1 h2;exact⟨A,l.length,c,h1,h2,h3⟩)
 clear ha1 hb1 h3s h3t htf ha0 hb0 sf sl tf tl hx hy hsx hsy hn hn2 hfs hft hft1 hy13;have hnc2:=kA1 (zF8 13);go_wp2_with (first
  | (go_at_call 188;refine (hnc.out _).mono ?_;rintro e wr ⟨rfl,hr⟩;subst wr;clear hnc)
  | (go_at_call 188;refine (hnc2.out _).mono ?_;rintro e wr ⟨rfl,hr⟩;subst wr;clear hnc2))
 have N0:(wq.alloc (.cells #[.string s,.string t,.int .i64 0,.slice none 0 0,.int .i64 0,.slice none 0 0] 236)).heap[wq.heap.size]?=some (.cells #[.string s,.string t,.int .i64 0,.slice none 0 0,.int .i64 0,.slice none 0 0] 236 (0,0)):=zA4 wq _;have BN:=BW.alloc BW.size (.cells #[.string s,.string t,.int .i64 0,.slice none 0 0,.int .i64 0,.slice none 0 0] 236);have J1':=J1;have J1:(wq.alloc (.cells #[.string s,.string t,.int .i64 0,.slice none 0 0,.int .i64 0,.slice none 0 0] 236)).heap[w.heap.size+1]?=some (.cells #[.string ⟨#[]⟩,.string ⟨#[]⟩,.int .i64 0,.slice none 0 0,.int .i64 0,.slice none 0 0] 236 (0,0)):=(kA4 _ _ _ (zA5 J1')).trans J1';have hlt:w.heap.size+1<wq.heap.size:=zA5 J1';clear J1' J0;generalize wq.alloc (.cells #[.string s,.string t,.int .i64 0,.slice none 0 0,.int .i64 0,.slice none 0 0] 236)=Y at *;generalize wq.heap.size=q at *;have KS2:Hid (∀(W:World) (a b:Value),(W.cell? ⟨q,0,none⟩=some (.string s)∧W.cell? ⟨q,1,none⟩=some (.string t)) →
   (((W.setCell ⟨q,2,none⟩ a).setCell ⟨q,3,none⟩ b).cell? ⟨q,0,none⟩=some (.string s)∧((W.setCell ⟨q,2,none⟩ a).setCell ⟨q,3,none⟩ b).cell? ⟨q,1,none⟩=some (.string t))) :=
  kA1 (fun W a b h=>⟨(kBd _ _ _ _ kD6).trans ((kBd _ _ _ _ kD6).trans h.1),(kBd _ _ _ _ kD6).trans ((kBd _ _ _ _ kD6).trans h.2)⟩)
 have KS3:Hid (∀(W:World) (a b:Value),(W.cell? ⟨q,0,none⟩=some (.string s)∧W.cell? ⟨q,1,none⟩=some (.string t)) →
   (((W.setCell ⟨q,4,none⟩ a).setCell ⟨q,5,none⟩ b).cell? ⟨q,0,none⟩=some (.string s)∧((W.setCell ⟨q,4,none⟩ a).setCell ⟨q,5,none⟩ b).cell? ⟨q,1,none⟩=some (.string t))) :=
  kA1 (fun W a b h=>⟨(kBd _ _ _ _ kD6).trans ((kBd _ _ _ _ kD6).trans h.1),(kBd _ _ _ _ kD6).trans ((kBd _ _ _ _ kD6).trans h.2)⟩)
 have K:Y.drew.cell? ⟨q,0,none⟩=some (.string s)∧Y.drew.cell? ⟨q,1,none⟩=some (.string t):=⟨zA1 N0 0,zA1 N0 1⟩;have N0:Y.drew.heap[q]?=some (.cells #[.string s,.string t,.int .i64 0,.slice none 0 0,.int .i64 0,.slice none 0 0] 236 (0,0)):=N0;have J1:Y.drew.heap[w.heap.size+1]?=some (.cells #[.string ⟨#[]⟩,.string ⟨#[]⟩,.int .i64 0,.slice none 0 0,.int .i64 0,.slice none 0 0] 236 (0,0)):=J1;have BN:=BN.drew;clear q0 q1 q2 hth hse hse2 e1 e2 e3 e4 BW hq;have hlt:=kA1 hlt
 go_region_held3 (fun w':World=>w'.cell? ⟨q,0,none⟩=some (.string s)∧w'.cell? ⟨q,1,none⟩=some (.string t)) (first | with_reducible exact K | with_reducible exact KS2.out _ _ _ K | with_reducible exact KS3.out _ _ _ (KS2.out _ _ _ K)) (first
  | (go_at_call 189;refine (HR1.out _).mono ?_;rintro e wa ⟨A1,m1,c1,rfl,L1,hqa⟩;clear HR1;have K:=And.intro (zA0 hqa K.1) (zA0 hqa K.2);have N0:=zAa hqa N0;have J1:=zAa hqa J1;have BN:=BN.trans (hqa.mono BN.size))
  | (go_at_call 189;refine (HR2.out _).mono ?_;rintro e wb ⟨A2,m2,c2,rfl,L2,hqb⟩;clear HR2;have L1:=L1.below hqb;have K:=And.intro (zA0 hqb K.1) (zA0 hqb K.2);have N0:=zAa hqb N0;have J1:=zAa hqb J1;have BN:=BN.trans (hqb.mono BN.size);have e0:=zA2 N0 2;have e1:=zA2 N0 3;have f0:=zA2 N0 4;have f1:=zA2 N0 5;have b0:=zA1 N0 2;have b1:=zA1 N0 3;have b2:=zA1 N0 4;have b3:=zA1 N0 5))
 have hbq:w.heap.size≤q:=by have:=hlt.out;omega
 have Z0:((((wb.setCell ⟨q,2,none⟩ (.int .i64 sx)).setCell ⟨q,3,none⟩ (.slice A1 m1 c1)).setCell ⟨q,4,none⟩ (.int .i64 sy)).setCell ⟨q,5,none⟩ (.slice A2 m2 c2)).heap[q]?=some (.cells #[.string s,.string t,.int .i64 sx,.slice A1 m1 c1,.int .i64 sy,.slice A2 m2 c2] 236 (0,0)):=zA8 (zA8 (zA8 (zA8 N0 2 _) 3 _) 4 _) 5 _;have Z1:((((wb.setCell ⟨q,2,none⟩ (.int .i64 sx)).setCell ⟨q,3,none⟩ (.slice A1 m1 c1)).setCell ⟨q,4,none⟩ (.int .i64 sy)).setCell ⟨q,5,none⟩ (.slice A2 m2 c2)).heap[w.heap.size+1]?=some (.cells #[.string ⟨#[]⟩,.string ⟨#[]⟩,.int .i64 0,.slice none 0 0,.int .i64 0,.slice none 0 0] 236 (0,0)):=by
  have hq:q≠w.heap.size+1:=by have:=hlt.out;omega
  exact (kA5 _ _ _ _ (kCr hq)).trans ((kA5 _ _ _ _ (kCr hq)).trans ((kA5 _ _ _ _ (kCr hq)).trans ((kA5 _ _ _ _ (kCr hq)).trans J1)))
 have ZB:Below w.heap.size w ((((wb.setCell ⟨q,2,none⟩ (.int .i64 sx)).setCell ⟨q,3,none⟩ (.slice A1 m1 c1)).setCell ⟨q,4,none⟩ (.int .i64 sy)).setCell ⟨q,5,none⟩ (.slice A2 m2 c2)):=(((BN.setCell (p:=⟨q,2,none⟩) hbq _).setCell (p:=⟨q,3,none⟩) hbq _).setCell (p:=⟨q,4,none⟩) hbq _).setCell (p:=⟨q,5,none⟩) hbq _;have hkk:∀p:Addr,p.block≠q→((((wb.setCell ⟨q,2,none⟩ (.int .i64 sx)).setCell ⟨q,3,none⟩ (.slice A1 m1 c1)).setCell ⟨q,4,none⟩ (.int .i64 sy)).setCell ⟨q,5,none⟩ (.slice A2 m2 c2)).cell? p=wb.cell? p:=fun p hp=>by
  rw[kAz _ _ _ _ (kCr hp),kAz _ _ _ _ (kCr hp),kAz _ _ _ _ (kCr hp),kAz _ _ _ _ (kCr hp)]
 have M1:=LN_step L1 N0 hkk;have M2:=LN_step L2 N0 hkk;clear K N0 J1 BN b0 b1 b2 b3 e0 e1 f0 f1 KS2 KS3 hkk L1 L2;generalize ((((wb.setCell ⟨q,2,none⟩ (.int .i64 sx)).setCell ⟨q,3,none⟩ (.slice A1 m1 c1)).setCell ⟨q,4,none⟩ (.int .i64 sy)).setCell ⟨q,5,none⟩ (.slice A2 m2 c2))=Z at *;have z2:=zA1 Z0 2;have z3:=zA1 Z0 3;have z4:=zA1 Z0 4;have z5:=zA1 Z0 5;have hcm:=common_calls x y _ _ Z M1 M2;clear M1 M2;obtain⟨g,hg⟩:∃g:Int,g=(Int.gcd x y:Int):=⟨_,rfl⟩;rw[← hg] at hcm;replace hg:=kA1 hg;go_wp2_with fail;refine hcm.mono ?_;rintro e W1 ⟨v1,rfl,hv1,hB1⟩;clear hcm;go_wp2_with fail;refine (of1_LN _).mono ?_;rintro e W2 ⟨v2,rfl,hv2,hB2⟩;have hor:=order_LN g 1 v1 v2 W2 (hv1.below hB2) hv2;clear hv1 hv2;go_wp2_with fail;refine hor.mono ?_;rintro e W3 ⟨rfl,hB3⟩;clear hor;have Y0:=zAa hB3 (zAa hB2 (zAa hB1 Z0));have Y1:=zAa hB3 (zAa hB2 (zAa hB1 Z1));have YB:=((ZB.trans (hB1.mono ZB.size)));have YB:=((YB.trans (hB2.mono YB.size)));have YB:=((YB.trans (hB3.mono YB.size)));clear hB1 hB2 hB3 ZB Z0 Z1 z2 z3 z4 z5 hqa hqb;by_cases hg1:Int.gcd x y=1
 ·have hn1:n=0:=by rw[hn3.out,kAa hg1]
  have hg2:g=1:=by rw[hg.out,hg1];rfl
  have c11:cmpI g 1=0:=by rw[hg2];rfl
  rw[c11];clear hg2 hg1 c11;have d0:=zA1 Y0 0;have d1:=zA1 Y0 1;have d2:=zA1 Y0 2;have d3:=zA1 Y0 3;have d4:=zA1 Y0 4;have d5:=zA1 Y0 5;have r0:=zA1 Y1 0;have r1:=zA1 Y1 1;have r2:=zA1 Y1 2;have r3:=zA1 Y1 3;have r4:=zA1 Y1 4;have r5:=zA1 Y1 5;have k0:=zA2 Y1 0;have k1:=zA2 Y1 1;have k2:=zA2 Y1 2;have k3:=zA2 Y1 3;have k4:=zA2 Y1 4;have k5:=zA2 Y1 5;replace hn1:=kA1 hn1;go_wp2_with (go_at_call 188;refine (zF8 _ _).mono ?_;rintro e wr ⟨rfl,hr⟩;subst wr);refine kAi (zAg Tryz.results168 _ _ (w.heap.size+1) 236 _ (0,0) _ rfl (zA8 (zA8 (zA8 (zA8 (zA8 (zA8 Y1 0 _) 1 _) 2 _) 3 _) 4 _) 5 _) Tryz.underlying236 rfl size236) rfl ⟨?_,.inl ⟨hn1.out,_,rfl⟩⟩;exact (((((YB.setCell (p:=⟨w.heap.size+1,0,none⟩) kD6 _).setCell (p:=⟨w.heap.size+1,1,none⟩) kD6 _).setCell (p:=⟨w.heap.size+1,2,none⟩) kD6 _).setCell (p:=⟨w.heap.size+1,3,none⟩) kD6 _).setCell (p:=⟨w.heap.size+1,4,none⟩) kD6 _).setCell (p:=⟨w.heap.size+1,5,none⟩) kD6 _
 ·have hn1:n=1:=by rw[hn3.out,kA9 hg1]
  have hg2:g≠1:=by rw[hg.out];omega
  have c11:(cmpI g 1 != 0)=true:=by rw[kCV];exact fun h=>hg2 (cmpI_zero h)
  clear hg2 hg1;generalize cmpI g 1=cc at *;go_wp2_with (go_at_call 188;refine (hy1.out _).mono ?_;rintro e wr ⟨rfl,hr⟩;subst wr);exact⟨rfl,YB,.inr ⟨kD4,rfl⟩⟩
theorem zBl (s t:ByteArray) (hs:s.size≤9223372036854775807) (ht:t.size≤9223372036854775807) (w:World) (hS:Start w) :
  Calls Tryz.prog 141 #[.agg #[.string s,.string t]] w fun e w'=>e=.returned (.int .i64 (chkR ⟨s,t⟩))∧Below w.heap.size w w':=by
 have hmf:∀(fn:Fn) (first cap:Array Value) (w:World),(Instr.makeFunc fn first cap).run Tryz.prog w=.ok (.func fn first cap) w:=fun _ _ _ _=>rfl
 have HT:=kA1 (fun w hS=>rtaken_calls s t hs ht w hS);obtain⟨n,hn⟩:∃n,n=chkR ⟨s,t⟩:=⟨_,rfl⟩;rw[← hn] at HT⊢;replace hn:=kA1 hn;have hb0:=((kA3 _ w).alloc (kA2 _) (.cells #[.string s,.string t] 28)).alloc kD6 (.cells #[.int .i64 0] 36);have hh1:((w.alloc (.cells #[.string s,.string t] 28)).alloc (.cells #[.int .i64 0] 36)).heap[w.heap.size+1]?=some (.cells #[.int .i64 0] 36 (0,0)):=zAD _ _ _ kD6;have hS1:=hS.below hb0;have hge:=hS1.err;go_enter_defers Tryz.func141,Tryz.ntmps141;go_wp2_with fail;refine (HT.out _ hS1).mono ?_;rintro e w1 ⟨hb1,hcase⟩;have hr1:=zAa hb1 hh1;have hbw:=hb0.trans (hb1.mono kDi);have hg1:=zA0 hb1 hge;rcases hcase with⟨h0,v,rfl⟩ | ⟨h0,he⟩
 ·subst h0;have c1:=zA1 hr1 0;have f1':=zA2 hr1 0;go_wp2;have hr2:=zA8 hr1 0 (.int .i64 0);have hbw2:=hbw.setCell (p:=⟨w.heap.size+1,0,none⟩) kD6 (.int .i64 0);generalize w1.setCell ⟨w.heap.size+1,0,none⟩ (.int .i64 0)=w2 at *;refine kCk (f:=166) (args:=#[.pointer (some ⟨w.heap.size+1,0,none⟩)]) kD6 kDk ?_;refine (catch166_idle (w.heap.size+1) (.int .i64 0) w2 hr2).mono ?_;rintro e u w3 ⟨rfl,rfl,hw3⟩;have c4:w3.cell? ⟨w.heap.size+1,0,none⟩=some (.int .i64 0):=by rw[hw3];exact zA1 (zA8 hr2 0 (.int .i64 0)) 0
  have hfin:Below w.heap.size w w3:=by rw[hw3];exact hbw2.setCell (p:=⟨w.heap.size+1,0,none⟩) kD6 _
  simp[Leaves,settle,results,Tryz.results141,go_sem,c4,hfin]
 ·unfold zBv at he;subst he;replace h0:=kA1 h0;go_wp2;refine kCk (f:=166) (args:=#[.pointer (some ⟨w.heap.size+1,0,none⟩)]) kD6 kDk ?_;refine (catch166_hit (w.heap.size+1) n (.int .i64 0) [] w1 hr1 hg1).mono ?_;rintro e u w3 ⟨rfl,rfl,hs3,hg3⟩;have c4:w3.cell? ⟨w.heap.size+1,0,none⟩=some (.int .i64 n):=zA1 hs3 0;have hfin:Below w.heap.size w w3:=hbw.grown hg3 hbw.size (fun j e=>by injection e with e;omega);simp[Leaves,settle,results,Tryz.results141,go_sem,c4,hfin]
theorem part28_0 (a b:Value) (w:World):(part 9 #[a,b] 0).run Tryz.prog w=.ok a w:=kD5
theorem part28_1 (a b:Value) (w:World):(part 9 #[a,b] 1).run Tryz.prog w=.ok b w:=kD5
theorem eq28 (a b c d:ByteArray) (w:World):(Op.equalIn 10000 28 (.agg #[.string a,.string b]) (.agg #[.string c,.string d])).run Tryz.prog w=.ok (a.toList==c.toList&&b.toList==d.toList) w :=
 eqA_of Tryz.underlying28 kD5 (eqf_cons rfl (part28_0 _ _ _) (part28_0 _ _ _) (run_equalIn_string w _ _ _ _ Tryz.underlying9) (eqf_last rfl (part28_1 _ _ _) (part28_1 _ _ _) (run_equalIn_string w _ _ _ _ Tryz.underlying9)))
theorem str_nil {s:ByteArray} (h:s.toList=[]):s=⟨#[]⟩:=by
 rw[kAV] at h;apply kBG;exact kBx.1 h
theorem nil_eq (s:ByteArray):(s.toList==(⟨#[]⟩:ByteArray).toList)=decide (s=⟨#[]⟩):=str_eq s ⟨#[]⟩
def zE9 (n:Int) (w:World) (e:Ending) (w':World):Prop:=Below w.heap.size w w'∧((n=0∧e=.returned (.tuple #[]))∨(n≠0∧e=zBv 159 n))
def zGg (x:S31):Bool :=
 if x.f0=0 then !decide (x.f2=⟨#[]⟩) && !zCe x.f2
 else if x.f0=1∨x.f0=10∨x.f0=11∨x.f0=13∨x.f0=14 then !zBQ x.f2
 else !decide (x.f2=⟨#[]⟩)
def tailE (x:S31):Int :=
 if zGg x=true then 4
 else if x.f3<zAK x.f0∨zAL x.f0<x.f3 then 2
 else 0
open Classical in
noncomputable def midE (x:S31):Int :=
 if x.f0=0 then (if chkR x.f1≠0 then chkR x.f1 else if negB x.f1.f0=true then 2 else tailE x)
 else if x.f1≠z28 then 1 else tailE x
noncomputable def zEH (x:S31):Int :=
 if x.f0<0∨14<x.f0 then 9
 else if (x.f4.length:Int)<zBb x.f0 then 8
 else if zBd x.f0<(x.f4.length:Int) then 7
 else midE x
theorem zAf (e:Int) (w:World):Calls Tryz.prog 67 #[.bool true,.int .i64 e] w fun en w'=>en=.panicked [{ v:=.iface 159 (.agg #[.int .i64 e]),recovered:=false }]∧w'=w:=fail_yes e w
theorem look_out (x:S31) (v5:Value) (w:World) (A:Option Addr) (c:Nat) (hv5:v5=.slice A x.f4.length c) (h:x.f0<0∨14<x.f0):Calls Tryz.prog 102 #[exV x v5] w (zE9 9 w):=by
 obtain⟨op,num,name,size,xs⟩:=x;subst hv5;simp only at *;have hin:=zBE op 0 14;have hb:(decide (0≤op)&&decide (op≤14))=false:=by
  rw[kAT];rcases h with h | h
  ·exact .inl (kAc kD4)
  ·exact .inr (kAc kD4)
 rw[hb] at hin;clear h hb;unfold exV;simp only;go_enter Tryz.func102,Tryz.ntmps102;go_wp2_with (first
  | (go_at_call 104;(with_reducible refine (hin _).mono ?_);rintro e wq ⟨rfl,hq⟩;subst wq)
  | (go_at_call 67;(with_reducible refine (zAs _ _).mono ?_);rintro e wq ⟨rfl,hq⟩;subst wq)
  | (go_at_call 67;(with_reducible refine (zAf _ _).mono ?_);rintro e wq ⟨rfl,hq⟩;subst wq))
 exact⟨rfl,(kA3 _ w).alloc (kA2 _) _,.inr ⟨kD4,rfl⟩⟩
theorem look_args (x:S31) (v5:Value) (w:World) (A:Option Addr) (c:Nat) (hv5:v5=.slice A x.f4.length c) (h0:0≤x.f0) (h1:x.f0≤14) (h:(x.f4.length:Int)<zBb x.f0∨zBd x.f0<(x.f4.length:Int)):Calls Tryz.prog 102 #[exV x v5] w (zE9 (if (x.f4.length:Int)<zBb x.f0 then 8 else 7) w):=by
 obtain⟨op,num,name,size,xs⟩:=x;subst hv5;simp only at *;have hin:=zBE op 0 14;rw[kA8 h0,kA8 h1] at hin;have hA:=zAJ op;generalize zBb op=aL at *;generalize zBd op=aH at *;clear h0 h1;unfold exV;simp only;by_cases hlt:(xs.length:Int)<aL
 ·rw[kAa hlt];have l1:decide ((xs.length:Int)<aL)=true:=kA8 hlt;clear h hlt;go_enter Tryz.func102,Tryz.ntmps102;go_wp2_with (first
   | (go_at_call 104;(with_reducible refine (hin _).mono ?_);rintro e wq ⟨rfl,hq⟩;subst wq)
   | (go_at_call 67;(with_reducible refine (zAs _ _).mono ?_);rintro e wq ⟨rfl,hq⟩;subst wq)
   | (go_at_call 67;(with_reducible refine (zAf _ _).mono ?_);rintro e wq ⟨rfl,hq⟩;subst wq))
  refine (hA _).mono ?_;rintro e w1 ⟨rfl,hb1⟩;have hx1:=zAa hb1 (zA4 w (.cells #[.int .i64 op,.string num.f0,.string num.f1,.string name,.int .i64 size,.slice A xs.length c] 31));obtain⟨⟨q0,q1,q2,q3,q4,q5⟩,_,xl⟩:=zA6 hx1;have hbw:Below w.heap.size w w1:=((kA3 _ w).alloc (kA2 _) _).trans (hb1.mono kD6);have hbw':=hbw.alloc hbw.size (.cells #[.int .i64 aL,.int .i64 aH] 198);have HX:=kA1 hx1;clear hx1;go_wp2_with (first
  | (go_at_call 104;(with_reducible refine (hin _).mono ?_);rintro e wq ⟨rfl,hq⟩;subst wq)
  | (go_at_call 67;(with_reducible refine (zAs _ _).mono ?_);rintro e wq ⟨rfl,hq⟩;subst wq)
  | (go_at_call 67;(with_reducible refine (zAf _ _).mono ?_);rintro e wq ⟨rfl,hq⟩;subst wq))
  exact⟨rfl,hbw',.inr ⟨kD4,rfl⟩⟩
 ·rw[kA9 hlt];have l1:decide ((xs.length:Int)<aL)=false:=kAc hlt;have l2:decide (aH<(xs.length:Int))=true:=kA8 kD4;clear h hlt;go_enter Tryz.func102,Tryz.ntmps102;go_wp2_with (first
   | (go_at_call 104;(with_reducible refine (hin _).mono ?_);rintro e wq ⟨rfl,hq⟩;subst wq)
   | (go_at_call 67;(with_reducible refine (zAs _ _).mono ?_);rintro e wq ⟨rfl,hq⟩;subst wq)
   | (go_at_call 67;(with_reducible refine (zAf _ _).mono ?_);rintro e wq ⟨rfl,hq⟩;subst wq))
  refine (hA _).mono ?_;rintro e w1 ⟨rfl,hb1⟩;have hx1:=zAa hb1 (zA4 w (.cells #[.int .i64 op,.string num.f0,.string num.f1,.string name,.int .i64 size,.slice A xs.length c] 31));obtain⟨⟨q0,q1,q2,q3,q4,q5⟩,_,xl⟩:=zA6 hx1;have hbw:Below w.heap.size w w1:=((kA3 _ w).alloc (kA2 _) _).trans (hb1.mono kD6);have hbw':=hbw.alloc hbw.size (.cells #[.int .i64 aL,.int .i64 aH] 198);have HX:=kA1 hx1;clear hx1;go_wp2_with (first
  | (go_at_call 104;(with_reducible refine (hin _).mono ?_);rintro e wq ⟨rfl,hq⟩;subst wq)
  | (go_at_call 67;(with_reducible refine (zAs _ _).mono ?_);rintro e wq ⟨rfl,hq⟩;subst wq)
  | (go_at_call 67;(with_reducible refine (zAf _ _).mono ?_);rintro e wq ⟨rfl,hq⟩;subst wq))
  exact⟨rfl,hbw',.inr ⟨kD4,rfl⟩⟩
theorem look_lit_chk (x:S31) (v5:Value) (w:World) (A:Option Addr) (c:Nat) (hv5:v5=.slice A x.f4.length c) (h0:0≤x.f0) (h1:x.f0≤14) (hlo:zBb x.f0≤x.f4.length) (hhi:(x.f4.length:Int)≤zBd x.f0)
  (hop:x.f0=0) (hS:Start w) (hs1:x.f1.f0.size≤9223372036854775807) (hs2:x.f1.f1.size≤9223372036854775807) (m:Int) (hm:m=chkR x.f1) (hm0:m≠0):Calls Tryz.prog 102 #[exV x v5] w (zE9 m w):=by
 obtain⟨op,num,name,size,xs⟩:=x;subst hv5;simp only at *;have hin:=zBE op 0 14;rw[kA8 h0,kA8 h1] at hin;have l1:decide ((xs.length:Int)<zBb op)=false:=kAc kD4;have l2:decide (zBd op<(xs.length:Int))=false:=kAc kD4;have hz:=zEe op;have E0:=zD9;have E9:=zD8;have E99:=zCi;have hA:=zAJ op;have hZ:=zBo op;have hin2:=zBE size (zAK op) (zAL op);obtain⟨nu,de⟩:=num;simp only at *;subst hop;have hC:=fun w hS=>zBl nu de hs1 hs2 w hS
 rw[← hm] at hC;have hmb:(m != 0)=true:=by simp[hm0]
 replace hm0:=kA1 hm0;clear hm;generalize zBb 0=aL at *;generalize zBd 0=aH at *;generalize zAK 0=sL at *;generalize zAL 0=sH at *;clear h0 h1 hlo hhi hz hZ hin2 E0 E9 E99;unfold exV;simp only;go_enter Tryz.func102,Tryz.ntmps102;go_wp2_with (first
  | (go_at_call 104;(with_reducible refine (hin _).mono ?_);rintro e wq ⟨rfl,hq⟩;subst wq)
  | (go_at_call 67;(with_reducible refine (zAs _ _).mono ?_);rintro e wq ⟨rfl,hq⟩;subst wq)
  | (go_at_call 67;(with_reducible refine (zAf _ _).mono ?_);rintro e wq ⟨rfl,hq⟩;subst wq))
 refine (hA _).mono ?_;rintro e w1 ⟨rfl,hb1⟩;have hx1:=zAa hb1 (zA4 w (.cells #[.int .i64 0,.string nu,.string de,.string name,.int .i64 size,.slice A xs.length c] 31));obtain⟨⟨q0,q1,q2,q3,q4,q5⟩,_,xl⟩:=zA6 hx1;have hbw:Below w.heap.size w w1:=((kA3 _ w).alloc (kA2 _) _).trans (hb1.mono kD6);have hbw':=hbw.alloc hbw.size (.cells #[.int .i64 aL,.int .i64 aH] 198);have HX:=kA1 hx1;clear hx1;go_wp2_with (first
  | (go_at_call 104;(with_reducible refine (hin _).mono ?_);rintro e wq ⟨rfl,hq⟩;subst wq)
  | (go_at_call 67;(with_reducible refine (zAs _ _).mono ?_);rintro e wq ⟨rfl,hq⟩;subst wq)
  | (go_at_call 67;(with_reducible refine (zAf _ _).mono ?_);rintro e wq ⟨rfl,hq⟩;subst wq))
 refine (hC _ (hS.below hbw')).mono ?_;rintro e w4 ⟨rfl,hb4⟩;have HXa:=kA1 (zAa hb4 ((kA4 w1 (.cells #[.int .i64 aL,.int .i64 aH] 198) _ xl).trans HX.out));have HYa:=kA1 (zAa hb4 (zA4 w1 (.cells #[.int .i64 aL,.int .i64 aH] 198)));have hbwa:=hbw'.trans (hb4.mono hbw'.size);obtain⟨⟨r0,r1,r2,r3,r4,r5⟩,_,xl4⟩:=zA6 HXa.out;go_wp2_with (first
  | (go_at_call 104;(with_reducible refine (hin _).mono ?_);rintro e wq ⟨rfl,hq⟩;subst wq)
  | (go_at_call 67;(with_reducible refine (zAs _ _).mono ?_);rintro e wq ⟨rfl,hq⟩;subst wq)
  | (go_at_call 67;(with_reducible refine (zAf _ _).mono ?_);rintro e wq ⟨rfl,hq⟩;subst wq))
 exact⟨rfl,hbwa,.inr ⟨hm0.out,rfl⟩⟩
theorem look_lit_neg (x:S31) (v5:Value) (w:World) (A:Option Addr) (c:Nat) (hv5:v5=.slice A x.f4.length c) (h0:0≤x.f0) (h1:x.f0≤14) (hlo:zBb x.f0≤x.f4.length) (hhi:(x.f4.length:Int)≤zBd x.f0)
  (hop:x.f0=0) (hS:Start w) (hs1:x.f1.f0.size≤9223372036854775807) (hs2:x.f1.f1.size≤9223372036854775807) (hm:chkR x.f1=0) (hp:0<x.f1.f0.size) (hneg:(((x.f1.f0[0]'hp).toNat:Int)==45)=true):Calls Tryz.prog 102 #[exV x v5] w (zE9 2 w):=by
 obtain⟨op,num,name,size,xs⟩:=x;subst hv5;simp only at *;have hin:=zBE op 0 14;rw[kA8 h0,kA8 h1] at hin;have l1:decide ((xs.length:Int)<zBb op)=false:=kAc kD4;have l2:decide (zBd op<(xs.length:Int))=false:=kAc kD4;have hz:=zEe op;have E0:=zD9;have E9:=zD8;have E99:=zCi;have hA:=zAJ op;have hZ:=zBo op;have hin2:=zBE size (zAK op) (zAL op);obtain⟨nu,de⟩:=num;simp only at *;subst hop;have hC:=fun w hS=>zBl nu de hs1 hs2 w hS
 rw[hm] at hC;clear hm;generalize zBb 0=aL at *;generalize zBd 0=aH at *;generalize zAK 0=sL at *;generalize zAL 0=sH at *;clear h0 h1 hlo hhi hz hZ hin2 E0 E9 E99;unfold exV;simp only;go_enter Tryz.func102,Tryz.ntmps102;go_wp2_with (first
  | (go_at_call 104;(with_reducible refine (hin _).mono ?_);rintro e wq ⟨rfl,hq⟩;subst wq)
  | (go_at_call 67;(with_reducible refine (zAs _ _).mono ?_);rintro e wq ⟨rfl,hq⟩;subst wq)
  | (go_at_call 67;(with_reducible refine (zAf _ _).mono ?_);rintro e wq ⟨rfl,hq⟩;subst wq))
 refine (hA _).mono ?_;rintro e w1 ⟨rfl,hb1⟩;have hx1:=zAa hb1 (zA4 w (.cells #[.int .i64 0,.string nu,.string de,.string name,.int .i64 size,.slice A xs.length c] 31));obtain⟨⟨q0,q1,q2,q3,q4,q5⟩,_,xl⟩:=zA6 hx1;have hbw:Below w.heap.size w w1:=((kA3 _ w).alloc (kA2 _) _).trans (hb1.mono kD6);have hbw':=hbw.alloc hbw.size (.cells #[.int .i64 aL,.int .i64 aH] 198);have HX:=kA1 hx1;clear hx1;go_wp2_with (first
  | (go_at_call 104;(with_reducible refine (hin _).mono ?_);rintro e wq ⟨rfl,hq⟩;subst wq)
  | (go_at_call 67;(with_reducible refine (zAs _ _).mono ?_);rintro e wq ⟨rfl,hq⟩;subst wq)
  | (go_at_call 67;(with_reducible refine (zAf _ _).mono ?_);rintro e wq ⟨rfl,hq⟩;subst wq))
 refine (hC _ (hS.below hbw')).mono ?_;rintro e w4 ⟨rfl,hb4⟩;have HXa:=kA1 (zAa hb4 ((kA4 w1 (.cells #[.int .i64 aL,.int .i64 aH] 198) _ xl).trans HX.out));have HYa:=kA1 (zAa hb4 (zA4 w1 (.cells #[.int .i64 aL,.int .i64 aH] 198)));have hbwa:=hbw'.trans (hb4.mono hbw'.size);obtain⟨⟨r0,r1,r2,r3,r4,r5⟩,_,xl4⟩:=zA6 HXa.out;go_wp2_with (first
  | (go_at_call 104;(with_reducible refine (hin _).mono ?_);rintro e wq ⟨rfl,hq⟩;subst wq)
  | (go_at_call 67;(with_reducible refine (zAs _ _).mono ?_);rintro e wq ⟨rfl,hq⟩;subst wq)
  | (go_at_call 67;(with_reducible refine (zAf _ _).mono ?_);rintro e wq ⟨rfl,hq⟩;subst wq))
 exact⟨rfl,hbwa,.inr ⟨kD4,rfl⟩⟩
theorem look_lit_bad (x:S31) (v5:Value) (w:World) (A:Option Addr) (c:Nat) (hv5:v5=.slice A x.f4.length c) (h0:0≤x.f0) (h1:x.f0≤14) (hlo:zBb x.f0≤x.f4.length) (hhi:(x.f4.length:Int)≤zBd x.f0)
  (hop:x.f0=0) (hS:Start w) (hs1:x.f1.f0.size≤9223372036854775807) (hs2:x.f1.f1.size≤9223372036854775807) (hm:chkR x.f1=0) (hp:0<x.f1.f0.size) (hneg:(((x.f1.f0[0]'hp).toNat:Int)==45)=false) (hs3:x.f2.size<9223372036854775807) (hne:x.f2≠⟨#[]⟩) (hub:zCe x.f2=false):Calls Tryz.prog 102 #[exV x v5] w (zE9 4 w):=by
 obtain⟨op,num,name,size,xs⟩:=x;subst hv5;simp only at *;have hin:=zBE op 0 14;rw[kA8 h0,kA8 h1] at hin;have l1:decide ((xs.length:Int)<zBb op)=false:=kAc kD4;have l2:decide (zBd op<(xs.length:Int))=false:=kAc kD4;have hz:=zEe op;have E0:=zD9;have E9:=zD8;have E99:=zCi;have hA:=zAJ op;have hZ:=zBo op;have hin2:=zBE size (zAK op) (zAL op);obtain⟨nu,de⟩:=num;simp only at *;subst hop;have hC:=fun w hS=>zBl nu de hs1 hs2 w hS
 rw[hm] at hC;clear hm;have hU:=fun w=>unit_any name hs3 w
 rw[hub] at hU;have hsome:name.toList.isEmpty=false:=by
  cases h:name.toList with
  | nil=>exact absurd (str_nil h) hne
  | cons _ _=>rfl
 generalize zBb 0=aL at *;generalize zBd 0=aH at *;generalize zAK 0=sL at *;generalize zAL 0=sH at *;clear h0 h1 hlo hhi hz hZ hin2 E0 E9 E99 hne hub;unfold exV;simp only;go_enter Tryz.func102,Tryz.ntmps102;go_wp2_with (first
  | (go_at_call 104;(with_reducible refine (hin _).mono ?_);rintro e wq ⟨rfl,hq⟩;subst wq)
  | (go_at_call 67;(with_reducible refine (zAs _ _).mono ?_);rintro e wq ⟨rfl,hq⟩;subst wq)
  | (go_at_call 67;(with_reducible refine (zAf _ _).mono ?_);rintro e wq ⟨rfl,hq⟩;subst wq))
 refine (hA _).mono ?_;rintro e w1 ⟨rfl,hb1⟩;have hx1:=zAa hb1 (zA4 w (.cells #[.int .i64 0,.string nu,.string de,.string name,.int .i64 size,.slice A xs.length c] 31));obtain⟨⟨q0,q1,q2,q3,q4,q5⟩,_,xl⟩:=zA6 hx1;have hbw:Below w.heap.size w w1:=((kA3 _ w).alloc (kA2 _) _).trans (hb1.mono kD6);have hbw':=hbw.alloc hbw.size (.cells #[.int .i64 aL,.int .i64 aH] 198);have HX:=kA1 hx1;clear hx1;go_wp2_with (first
  | (go_at_call 104;(with_reducible refine (hin _).mono ?_);rintro e wq ⟨rfl,hq⟩;subst wq)
  | (go_at_call 67;(with_reducible refine (zAs _ _).mono ?_);rintro e wq ⟨rfl,hq⟩;subst wq)
  | (go_at_call 67;(with_reducible refine (zAf _ _).mono ?_);rintro e wq ⟨rfl,hq⟩;subst wq))
 refine (hC _ (hS.below hbw')).mono ?_;rintro e w4 ⟨rfl,hb4⟩;have HXa:=kA1 (zAa hb4 ((kA4 w1 (.cells #[.int .i64 aL,.int .i64 aH] 198) _ xl).trans HX.out));have HYa:=kA1 (zAa hb4 (zA4 w1 (.cells #[.int .i64 aL,.int .i64 aH] 198)));have hbwa:=hbw'.trans (hb4.mono hbw'.size);obtain⟨⟨r0,r1,r2,r3,r4,r5⟩,_,xl4⟩:=zA6 HXa.out;go_wp2_with (first
  | (go_at_call 104;(with_reducible refine (hin _).mono ?_);rintro e wq ⟨rfl,hq⟩;subst wq)
  | (go_at_call 67;(with_reducible refine (zAs _ _).mono ?_);rintro e wq ⟨rfl,hq⟩;subst wq)
  | (go_at_call 67;(with_reducible refine (zAf _ _).mono ?_);rintro e wq ⟨rfl,hq⟩;subst wq))
 refine (hU _).mono ?_;rintro e w5 ⟨rfl,hb5⟩;have hbw5:=hbwa.trans (hb5.mono hbwa.size);go_wp2_with (first
  | (go_at_call 104;(with_reducible refine (hin _).mono ?_);rintro e wq ⟨rfl,hq⟩;subst wq)
  | (go_at_call 67;(with_reducible refine (zAs _ _).mono ?_);rintro e wq ⟨rfl,hq⟩;subst wq)
  | (go_at_call 67;(with_reducible refine (zAf _ _).mono ?_);rintro e wq ⟨rfl,hq⟩;subst wq))
 exact⟨rfl,hbw5,.inr ⟨kD4,rfl⟩⟩
theorem look_lit_unit (x:S31) (v5:Value) (w:World) (A:Option Addr) (c:Nat) (hv5:v5=.slice A x.f4.length c) (h0:0≤x.f0) (h1:x.f0≤14) (hlo:zBb x.f0≤x.f4.length) (hhi:(x.f4.length:Int)≤zBd x.f0)
  (hop:x.f0=0) (hS:Start w) (hs1:x.f1.f0.size≤9223372036854775807) (hs2:x.f1.f1.size≤9223372036854775807) (hm:chkR x.f1=0) (hp:0<x.f1.f0.size) (hneg:(((x.f1.f0[0]'hp).toNat:Int)==45)=false) (hs3:x.f2.size<9223372036854775807) (hne:x.f2≠⟨#[]⟩) (hub:zCe x.f2=true) (n:Int) (hN:Hid (n=if x.f3<zAK x.f0∨zAL x.f0<x.f3 then 2 else 0)):Calls Tryz.prog 102 #[exV x v5] w (zE9 n w):=by
 obtain⟨op,num,name,size,xs⟩:=x;subst hv5;simp only at *;have hin:=zBE op 0 14;rw[kA8 h0,kA8 h1] at hin;have l1:decide ((xs.length:Int)<zBb op)=false:=kAc kD4;have l2:decide (zBd op<(xs.length:Int))=false:=kAc kD4;have hz:=zEe op;have E0:=zD9;have E9:=zD8;have E99:=zCi;have hA:=zAJ op;have hZ:=zBo op;have hin2:=zBE size (zAK op) (zAL op);obtain⟨nu,de⟩:=num;simp only at *;subst hop;have hC:=fun w hS=>zBl nu de hs1 hs2 w hS
 rw[hm] at hC;clear hm;have hU:=fun w=>unit_any name hs3 w
 rw[hub] at hU;have hsome:name.toList.isEmpty=false:=by
  cases h:name.toList with
  | nil=>exact absurd (str_nil h) hne
  | cons _ _=>rfl
 generalize zBb 0=aL at *;generalize zBd 0=aH at *;generalize zAK 0=sL at *;generalize zAL 0=sH at *;clear h0 h1 hlo hhi hne hub;unfold exV;simp only;go_enter Tryz.func102,Tryz.ntmps102;go_wp2_with (first
  | (go_at_call 104;(with_reducible refine (hin _).mono ?_);rintro e wq ⟨rfl,hq⟩;subst wq)
  | (go_at_call 67;(with_reducible refine (zAs _ _).mono ?_);rintro e wq ⟨rfl,hq⟩;subst wq)
  | (go_at_call 67;(with_reducible refine (zAf _ _).mono ?_);rintro e wq ⟨rfl,hq⟩;subst wq))
 refine (hA _).mono ?_;rintro e w1 ⟨rfl,hb1⟩;have hx1:=zAa hb1 (zA4 w (.cells #[.int .i64 0,.string nu,.string de,.string name,.int .i64 size,.slice A xs.length c] 31));obtain⟨⟨q0,q1,q2,q3,q4,q5⟩,_,xl⟩:=zA6 hx1;have hbw:Below w.heap.size w w1:=((kA3 _ w).alloc (kA2 _) _).trans (hb1.mono kD6);have hbw':=hbw.alloc hbw.size (.cells #[.int .i64 aL,.int .i64 aH] 198);have HX:=kA1 hx1;clear hx1;go_wp2_with (first
  | (go_at_call 104;(with_reducible refine (hin _).mono ?_);rintro e wq ⟨rfl,hq⟩;subst wq)
  | (go_at_call 67;(with_reducible refine (zAs _ _).mono ?_);rintro e wq ⟨rfl,hq⟩;subst wq)
  | (go_at_call 67;(with_reducible refine (zAf _ _).mono ?_);rintro e wq ⟨rfl,hq⟩;subst wq))
 refine (hC _ (hS.below hbw')).mono ?_;rintro e w4 ⟨rfl,hb4⟩;have HXa:=kA1 (zAa hb4 ((kA4 w1 (.cells #[.int .i64 aL,.int .i64 aH] 198) _ xl).trans HX.out));have HYa:=kA1 (zAa hb4 (zA4 w1 (.cells #[.int .i64 aL,.int .i64 aH] 198)));have hbwa:=hbw'.trans (hb4.mono hbw'.size);obtain⟨⟨r0,r1,r2,r3,r4,r5⟩,_,xl4⟩:=zA6 HXa.out;go_wp2_with (first
  | (go_at_call 104;(with_reducible refine (hin _).mono ?_);rintro e wq ⟨rfl,hq⟩;subst wq)
  | (go_at_call 67;(with_reducible refine (zAs _ _).mono ?_);rintro e wq ⟨rfl,hq⟩;subst wq)
  | (go_at_call 67;(with_reducible refine (zAf _ _).mono ?_);rintro e wq ⟨rfl,hq⟩;subst wq))
 refine (hU _).mono ?_;rintro e w5 ⟨rfl,hb5⟩;have HXb:=kA1 (zAa hb5 HXa.out);have HYb:=kA1 (zAa hb5 HYa.out);have hbwb:=hbwa.trans (hb5.mono hbwa.size);obtain⟨⟨s0,s1,s2,s3,s4,s5⟩,_,xl5⟩:=zA6 HXb.out;clear r0 r1 r2 r3 r4 r5 HXa HYa;go_wp2_with (first
  | (go_at_call 104;(with_reducible refine (hin _).mono ?_);rintro e wq ⟨rfl,hq⟩;subst wq)
  | (go_at_call 67;(with_reducible refine (zAs _ _).mono ?_);rintro e wq ⟨rfl,hq⟩;subst wq)
  | (go_at_call 67;(with_reducible refine (zAf _ _).mono ?_);rintro e wq ⟨rfl,hq⟩;subst wq))
 refine (hZ _).mono ?_;rintro e w2 ⟨rfl,hb2⟩;have hx2:=zAa hb2 HXb.out;have hy2:=zAa hb2 HYb.out;have hbw2:=hbwb.trans (hb2.mono hbwb.size);have hw1:=hbw.size;obtain⟨⟨p0,p1,p2,p3,p4,p5⟩,_,xl2⟩:=zA6 hx2;have y0:=zA1 hy2 0;have y1:=zA1 hy2 1;have z0:=zA2 hy2 0;have z1:=zA2 hy2 1;have yl:=zA5 hy2;have hneq:=kB8 xl;clear hx2 hy2 HX hb1 hb2 hb4 hb5 s0 s1 s2 s3 s4 s5;by_cases hsz:size<sL∨sH<size
 ·have hn:n=2:=by rw[hN.out,kAa hsz]
  have hsb:(decide (sL≤size)&&decide (size≤sH))=false:=by
   rw[kAT];rcases hsz with h | h
   ·exact .inl (kAc kD4)
   ·exact .inr (kAc kD4)
  rw[hsb] at hin2;subst hn;clear hsb;rcases hz with⟨rfl,rfl⟩ | ⟨rfl,rfl⟩ | ⟨rfl,rfl⟩
  ·have hs:(size==0)=false:=zAF kD4;have hs':(size != 0)=true:=by rw[bne,hs];rfl
   clear hsz;go_wp2_with (first
    | (go_at_call 104;(with_reducible refine (hin2 _).mono ?_);rintro e wq ⟨rfl,hq⟩;subst wq)
    | (go_at_call 67;(with_reducible refine (zAs _ _).mono ?_);rintro e wq ⟨rfl,hq⟩;subst wq)
    | (go_at_call 67;(with_reducible refine (zAf _ _).mono ?_);rintro e wq ⟨rfl,hq⟩;subst wq))
   exact⟨rfl,(hbw2.setCell (p:=⟨w1.heap.size,0,none⟩) kD8 _).setCell (p:=⟨w1.heap.size,1,none⟩) kD8 _,.inr ⟨kD4,rfl⟩⟩
  all_goals
   clear hsz;go_wp2_with (first
    | (go_at_call 104;(with_reducible refine (hin2 _).mono ?_);rintro e wq ⟨rfl,hq⟩;subst wq)
    | (go_at_call 67;(with_reducible refine (zAs _ _).mono ?_);rintro e wq ⟨rfl,hq⟩;subst wq)
    | (go_at_call 67;(with_reducible refine (zAf _ _).mono ?_);rintro e wq ⟨rfl,hq⟩;subst wq))
   exact⟨rfl,(hbw2.setCell (p:=⟨w1.heap.size,0,none⟩) kD8 _).setCell (p:=⟨w1.heap.size,1,none⟩) kD8 _,.inr ⟨kD4,rfl⟩⟩
 ·have hn:n=0:=by rw[hN.out,kA9 hsz]
  rw[kA8 (show sL≤size by omega),kA8 (show size≤sH by omega)] at hin2;subst hn;rcases hz with⟨rfl,rfl⟩ | ⟨rfl,rfl⟩ | ⟨rfl,rfl⟩
  ·have hs:(size==0)=true:=by rw[kAA];omega
   have hs':(size != 0)=false:=by rw[bne,hs];rfl
   clear hsz;go_wp2_with (first
    | (go_at_call 104;(with_reducible refine (hin2 _).mono ?_);rintro e wq ⟨rfl,hq⟩;subst wq)
    | (go_at_call 67;(with_reducible refine (zAs _ _).mono ?_);rintro e wq ⟨rfl,hq⟩;subst wq)
    | (go_at_call 67;(with_reducible refine (zAf _ _).mono ?_);rintro e wq ⟨rfl,hq⟩;subst wq))
   exact kBf (kB4 rfl _ _ _) rfl ⟨(hbw2.setCell (p:=⟨w1.heap.size,0,none⟩) kD8 _).setCell (p:=⟨w1.heap.size,1,none⟩) kD8 _,.inl ⟨rfl,rfl⟩⟩
  all_goals
   clear hsz;go_wp2_with (first
    | (go_at_call 104;(with_reducible refine (hin2 _).mono ?_);rintro e wq ⟨rfl,hq⟩;subst wq)
    | (go_at_call 67;(with_reducible refine (zAs _ _).mono ?_);rintro e wq ⟨rfl,hq⟩;subst wq)
    | (go_at_call 67;(with_reducible refine (zAf _ _).mono ?_);rintro e wq ⟨rfl,hq⟩;subst wq))
   exact kBf (kB4 rfl _ _ _) rfl ⟨(hbw2.setCell (p:=⟨w1.heap.size,0,none⟩) kD8 _).setCell (p:=⟨w1.heap.size,1,none⟩) kD8 _,.inl ⟨rfl,rfl⟩⟩
theorem look_lit_plain (x:S31) (v5:Value) (w:World) (A:Option Addr) (c:Nat) (hv5:v5=.slice A x.f4.length c) (h0:0≤x.f0) (h1:x.f0≤14) (hlo:zBb x.f0≤x.f4.length) (hhi:(x.f4.length:Int)≤zBd x.f0)
  (hop:x.f0=0) (hS:Start w) (hs1:x.f1.f0.size≤9223372036854775807) (hs2:x.f1.f1.size≤9223372036854775807) (hm:chkR x.f1=0) (hp:0<x.f1.f0.size) (hneg:(((x.f1.f0[0]'hp).toNat:Int)==45)=false) (hne:x.f2=⟨#[]⟩) (n:Int) (hN:Hid (n=if x.f3<zAK x.f0∨zAL x.f0<x.f3 then 2 else 0)):Calls Tryz.prog 102 #[exV x v5] w (zE9 n w):=by
 obtain⟨op,num,name,size,xs⟩:=x;subst hv5;simp only at *;have hin:=zBE op 0 14;rw[kA8 h0,kA8 h1] at hin;have l1:decide ((xs.length:Int)<zBb op)=false:=kAc kD4;have l2:decide (zBd op<(xs.length:Int))=false:=kAc kD4;have hz:=zEe op;have E0:=zD9;have E9:=zD8;have E99:=zCi;have hA:=zAJ op;have hZ:=zBo op;have hin2:=zBE size (zAK op) (zAL op);obtain⟨nu,de⟩:=num;simp only at *;subst hop;have hC:=fun w hS=>zBl nu de hs1 hs2 w hS
 rw[hm] at hC;clear hm;subst hne;generalize zBb 0=aL at *;generalize zBd 0=aH at *;generalize zAK 0=sL at *;generalize zAL 0=sH at *;clear h0 h1 hlo hhi;unfold exV;simp only;go_enter Tryz.func102,Tryz.ntmps102;go_wp2_with (first
  | (go_at_call 104;(with_reducible refine (hin _).mono ?_);rintro e wq ⟨rfl,hq⟩;subst wq)
  | (go_at_call 67;(with_reducible refine (zAs _ _).mono ?_);rintro e wq ⟨rfl,hq⟩;subst wq)
  | (go_at_call 67;(with_reducible refine (zAf _ _).mono ?_);rintro e wq ⟨rfl,hq⟩;subst wq))
 refine (hA _).mono ?_;rintro e w1 ⟨rfl,hb1⟩;have hx1:=zAa hb1 (zA4 w (.cells #[.int .i64 0,.string nu,.string de,.string ⟨#[]⟩,.int .i64 size,.slice A xs.length c] 31));obtain⟨⟨q0,q1,q2,q3,q4,q5⟩,_,xl⟩:=zA6 hx1;have hbw:Below w.heap.size w w1:=((kA3 _ w).alloc (kA2 _) _).trans (hb1.mono kD6);have hbw':=hbw.alloc hbw.size (.cells #[.int .i64 aL,.int .i64 aH] 198);have HX:=kA1 hx1;clear hx1;go_wp2_with (first
  | (go_at_call 104;(with_reducible refine (hin _).mono ?_);rintro e wq ⟨rfl,hq⟩;subst wq)
  | (go_at_call 67;(with_reducible refine (zAs _ _).mono ?_);rintro e wq ⟨rfl,hq⟩;subst wq)
  | (go_at_call 67;(with_reducible refine (zAf _ _).mono ?_);rintro e wq ⟨rfl,hq⟩;subst wq))
 refine (hC _ (hS.below hbw')).mono ?_;rintro e w4 ⟨rfl,hb4⟩;have HXa:=kA1 (zAa hb4 ((kA4 w1 (.cells #[.int .i64 aL,.int .i64 aH] 198) _ xl).trans HX.out));have HYa:=kA1 (zAa hb4 (zA4 w1 (.cells #[.int .i64 aL,.int .i64 aH] 198)));have hbwa:=hbw'.trans (hb4.mono hbw'.size);obtain⟨⟨r0,r1,r2,r3,r4,r5⟩,_,xl4⟩:=zA6 HXa.out;go_wp2_with (first
  | (go_at_call 104;(with_reducible refine (hin _).mono ?_);rintro e wq ⟨rfl,hq⟩;subst wq)
  | (go_at_call 67;(with_reducible refine (zAs _ _).mono ?_);rintro e wq ⟨rfl,hq⟩;subst wq)
  | (go_at_call 67;(with_reducible refine (zAf _ _).mono ?_);rintro e wq ⟨rfl,hq⟩;subst wq))
 refine (hZ _).mono ?_;rintro e w2 ⟨rfl,hb2⟩;have hx2:=zAa hb2 HXa.out;have hy2:=zAa hb2 HYa.out;have hbw2:=hbwa.trans (hb2.mono hbwa.size);have hw1:=hbw.size;obtain⟨⟨p0,p1,p2,p3,p4,p5⟩,_,xl2⟩:=zA6 hx2;have y0:=zA1 hy2 0;have y1:=zA1 hy2 1;have z0:=zA2 hy2 0;have z1:=zA2 hy2 1;have yl:=zA5 hy2;have hneq:=kB8 xl;clear hx2 hy2 HX hb1 hb2 hb4 r0 r1 r2 r3 r4 r5;by_cases hsz:size<sL∨sH<size
 ·have hn:n=2:=by rw[hN.out,kAa hsz]
  have hsb:(decide (sL≤size)&&decide (size≤sH))=false:=by
   rw[kAT];rcases hsz with h | h
   ·exact .inl (kAc kD4)
   ·exact .inr (kAc kD4)
  rw[hsb] at hin2;subst hn;clear hsb;rcases hz with⟨rfl,rfl⟩ | ⟨rfl,rfl⟩ | ⟨rfl,rfl⟩
  ·have hs:(size==0)=false:=zAF kD4;have hs':(size != 0)=true:=by rw[bne,hs];rfl
   clear hsz;go_wp2_with (first
    | (go_at_call 104;(with_reducible refine (hin2 _).mono ?_);rintro e wq ⟨rfl,hq⟩;subst wq)
    | (go_at_call 67;(with_reducible refine (zAs _ _).mono ?_);rintro e wq ⟨rfl,hq⟩;subst wq)
    | (go_at_call 67;(with_reducible refine (zAf _ _).mono ?_);rintro e wq ⟨rfl,hq⟩;subst wq))
   exact⟨rfl,(hbw2.setCell (p:=⟨w1.heap.size,0,none⟩) kD8 _).setCell (p:=⟨w1.heap.size,1,none⟩) kD8 _,.inr ⟨kD4,rfl⟩⟩
  all_goals
   clear hsz;go_wp2_with (first
    | (go_at_call 104;(with_reducible refine (hin2 _).mono ?_);rintro e wq ⟨rfl,hq⟩;subst wq)
    | (go_at_call 67;(with_reducible refine (zAs _ _).mono ?_);rintro e wq ⟨rfl,hq⟩;subst wq)
    | (go_at_call 67;(with_reducible refine (zAf _ _).mono ?_);rintro e wq ⟨rfl,hq⟩;subst wq))
   exact⟨rfl,(hbw2.setCell (p:=⟨w1.heap.size,0,none⟩) kD8 _).setCell (p:=⟨w1.heap.size,1,none⟩) kD8 _,.inr ⟨kD4,rfl⟩⟩
 ·have hn:n=0:=by rw[hN.out,kA9 hsz]
  rw[kA8 (show sL≤size by omega),kA8 (show size≤sH by omega)] at hin2;subst hn;rcases hz with⟨rfl,rfl⟩ | ⟨rfl,rfl⟩ | ⟨rfl,rfl⟩
  ·have hs:(size==0)=true:=by rw[kAA];omega
   have hs':(size != 0)=false:=by rw[bne,hs];rfl
   clear hsz;go_wp2_with (first
    | (go_at_call 104;(with_reducible refine (hin2 _).mono ?_);rintro e wq ⟨rfl,hq⟩;subst wq)
    | (go_at_call 67;(with_reducible refine (zAs _ _).mono ?_);rintro e wq ⟨rfl,hq⟩;subst wq)
    | (go_at_call 67;(with_reducible refine (zAf _ _).mono ?_);rintro e wq ⟨rfl,hq⟩;subst wq))
   exact kBf (kB4 rfl _ _ _) rfl ⟨(hbw2.setCell (p:=⟨w1.heap.size,0,none⟩) kD8 _).setCell (p:=⟨w1.heap.size,1,none⟩) kD8 _,.inl ⟨rfl,rfl⟩⟩
  all_goals
   clear hsz;go_wp2_with (first
    | (go_at_call 104;(with_reducible refine (hin2 _).mono ?_);rintro e wq ⟨rfl,hq⟩;subst wq)
    | (go_at_call 67;(with_reducible refine (zAs _ _).mono ?_);rintro e wq ⟨rfl,hq⟩;subst wq)
    | (go_at_call 67;(with_reducible refine (zAf _ _).mono ?_);rintro e wq ⟨rfl,hq⟩;subst wq))
   exact kBf (kB4 rfl _ _ _) rfl ⟨(hbw2.setCell (p:=⟨w1.heap.size,0,none⟩) kD8 _).setCell (p:=⟨w1.heap.size,1,none⟩) kD8 _,.inl ⟨rfl,rfl⟩⟩
end Go.Proofs.YtjaobihcdkjmbaaGreatDoor
end
