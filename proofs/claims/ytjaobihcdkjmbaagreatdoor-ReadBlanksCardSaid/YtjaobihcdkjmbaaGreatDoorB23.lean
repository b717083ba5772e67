/- The law ReadBlanks answers true for every argument; a part of its proof. -/
import Derived.Test.YtjaobihcdkjmbaaGreatDoorBa
import Derived.Test.YtjaobihcdkjmbaaGreatDoorBb
import Derived.Test.YtjaobihcdkjmbaaGreatDoorB0
import Derived.Test.YtjaobihcdkjmbaaGreatDoorB7
import Derived.Test.YtjaobihcdkjmbaaGreatDoorB9
import Derived.Test.YtjaobihcdkjmbaaGreatDoorB10
import Derived.Test.YtjaobihcdkjmbaaGreatDoorB11
import Derived.Test.YtjaobihcdkjmbaaGreatDoorB12
import Derived.Test.YtjaobihcdkjmbaaGreatDoorB19
set_option linter.unusedVariables false
set_option linter.unusedSimpArgs false
namespace Go.Proofs.YtjaobihcdkjmbaaGreatDoor.PReadTokens
end Go.Proofs.YtjaobihcdkjmbaaGreatDoor.PReadTokens
namespace Go.Proofs.YtjaobihcdkjmbaaGreatDoorW.PrintWords
end Go.Proofs.YtjaobihcdkjmbaaGreatDoorW.PrintWords
set_option maxRecDepth 100000
set_option maxHeartbeats 8000000
section
namespace Go.Proofs.YtjaobihcdkjmbaaGreatDoor
open Go.RowKit Go.Proofs.YtjaobihcdkjmbaaGreatDoorW.PrintWords Go.Proofs.YtjaobihcdkjmbaaGreatDoor.PReadTokens
abbrev Sx (w:World) (X:Nat):Nat→Prop:=fun k=>w.heap.size<k∧k≠X
structure Gath (W0:World) (R B:Nat) (ts:List S47) (en:Nat) (w:World) (X:Nat) (wr:World) (x:S31) (n:Nat) (v:Value):Prop where
 st:St W0 R B ts en n wr
 took:Took w R ts n en wr
 blk:wr.heap[X]?=some (.cells #[.int .i64 x.f0,.string x.f1.f0,.string x.f1.f1,.string x.f2,.int .i64 x.f3,v] 31 (0,0))
 val:Ex wr (Sx w X) x (exV x v)
 res:wr.heap[w.heap.size]?=some zO
theorem zCe {x:S31} {u v:Value} (h:exV x u=exV x v):u=v:=by unfold exV at h;simpa using h
theorem Gath.go {W0:World} {R B:Nat} {ts:List S47} {en:Nat} {w:World} {X:Nat} {wr w1:World} {x:S31} {n n1:Nat} {v:Value} (E:Env W0 R B ts) (hR:R<w.heap.size) (hX:w.heap.size<X)
  (G:Gath W0 R B ts en w X wr x n v) (k:Took wr R ts n1 en w1) (hn:n1≤ts.length):Gath W0 R B ts en w X w1 x n1 v :=
 ⟨G.st.took E k hn,G.took.trans k,k.blk G.blk kCT,G.val.grown k.grown (fun k hk=>by have:=hk.1;omega),k.blk G.res kCT⟩
theorem Gath.below {W0:World} {R B:Nat} {ts:List S47} {en:Nat} {w:World} {X:Nat} {wr w1:World} {x:S31} {n:Nat} {v:Value}
  (G:Gath W0 R B ts en w X wr x n v) (hb:Below wr.heap.size wr w1):Gath W0 R B ts en w X w1 x n v :=
 ⟨G.st.below hb,G.took.below hb,zA9 hb G.blk,G.val.below hb,zA9 hb G.res⟩
theorem Gath.store {W0:World} {R B:Nat} {ts:List S47} {en:Nat} {w:World} {X:Nat} {wr:World} {x y:S31} {n:Nat} {v u:Value} (E:Env W0 R B ts) (hR:R<w.heap.size) (hX:w.heap.size<X)
  (G:Gath W0 R B ts en w X wr x n v) (h:Ex wr (Sx w X) y (exV y u)):Gath W0 R B ts en w X (set6 wr X (.int .i64 y.f0) (.string y.f1.f0) (.string y.f1.f1) (.string y.f2) (.int .i64 y.f3) u) y n u:=by
 have hXR:X≠R:=kCT
 have hlow:=G.st.low.size;have hg:=zCq (X:=wr) X (.int .i64 y.f0) (.string y.f1.f0) (.string y.f1.f1) (.string y.f2) (.int .i64 y.f3) u;have own:=E.own;refine⟨⟨?_,?_,kAB G.st.base hg.size,G.st.pos⟩,G.took.set6 G.blk hXR (kAX hX) _ _ _ _ _ _,fin6 _ _ _ _ _ _ G.blk,h.set6 (fun k hk=>hk.2) _ _ _ _ _ _,zAe hg G.res kCT⟩
 ·exact (G.took.set6 G.blk hXR (kAX hX) (.int .i64 y.f0) (.string y.f1.f0) (.string y.f1.f1) (.string y.f2) (.int .i64 y.f3) u).rdr
 ·exact G.st.low.grown hg hlow (fun j e=>by injection e with e;omega)
theorem Gath.two {W0:World} {R B:Nat} {ts:List S47} {en:Nat} {w:World} {X:Nat} {wr w2:World} {x y:S31} {n n2:Nat} {v vy:Value} (op:Int) (E:Env W0 R B ts) (hR:R<w.heap.size) (hX:w.heap.size<X)
  (G:Gath W0 R B ts en w X wr x n v) (hy:Ex w2 (From wr.heap.size) y vy) (k:Took wr R ts n2 en w2) (hn:n2≤ts.length) :
  Calls Tryz.prog 161 #[.int .i64 op,exV x v,vy] w2 fun e w3=>∃u A N C,e=.returned (exV (twoX op x y) u)∧u=.slice A N C∧Gath W0 R B ts en w X w3 x n2 v∧Ex w3 (Sx w X) (twoX op x y) (exV (twoX op x y) u):=by
 have G2:=G.go E hR hX k hn;have hlt:=zA5 G.blk;have hsz:=k.grown.size;refine (two_calls op x y (exV x v) vy (Sx w X) w2 (fun j hj=>⟨kCT,kCT⟩) G2.val (hy.mono (fun j hj=>by simp only[From] at hj;exact⟨kCT,kCT⟩))).mono ?_;rintro e w3 ⟨u,rfl,hu,hb⟩;obtain⟨u5,A,N,C,rfl,rfl,_,_⟩:=hu.cells;exact⟨_,A,N,C,rfl,rfl,G2.below hb,hu⟩
theorem zF5 (W0:World) (R B:Nat) (ts:List S47) (en:Nat) (chk:S28→Int) (ex:Nat→PR) (m now:Nat) (w:World) (E:Env W0 R B ts) (h:St W0 R B ts en now w) (hm:m≤now)
  (hp:Pars W0 R B ts en 180 (zCv ts en chk ex) m) :
  Calls Tryz.prog 160 #[.pointer (some ⟨R,0,none⟩)] w (zAj w R ts en now (zAO ts en chk ex now)):=by
 have hp0:=hp now (w.alloc zO) hm (h.below ((kA3 _ _).alloc (kA2 _) _));unfold zAO;have few:=E.few;have hRw:=h.rdr.lt;have hne0:=kAq hRw
 cases hc:zCv ts en chk ex now with
 | error p =>
  rw[hc] at hp0;unfold zAj zAk at hp0;clear hc hp h;go_enter Tryz.func160,Tryz.ntmps160;go_wp2_with fail;refine hp0.mono ?_;rintro e w1 ⟨rfl,hg⟩;go_wp2;exact⟨rfl,rfl,kA6 (kAC w zO _) hg⟩
 | ok r =>
  obtain⟨x,n⟩:=r;rw[hc] at hp0;unfold zAj at hp0;have HP:=kA1 hp;have H:=kA1 h;have h0:St W0 R B ts en now (w.alloc zO):=h.below ((kA3 _ _).alloc (kA2 _) _);clear hp h hc;go_enter Tryz.func160,Tryz.ntmps160;go_wp2_with fail;refine hp0.mono ?_;rintro e w1 ⟨hn1,hn2,v,rfl,hx,hk⟩;obtain⟨v5,A5,n5,c5,rfl,rfl,_,_⟩:=hx.cells;unfold exV;go_wp2;have g1:Gath W0 R B ts en w w1.heap.size (w1.alloc (.cells #[.int .i64 x.f0,.string x.f1.f0,.string x.f1.f1,.string x.f2,.int .i64 x.f3,.slice A5 n5 c5] 31)) x n (.slice A5 n5 c5) :=
   ⟨((h0.took E hk hn2).below ((kA3 _ _).alloc (kA2 _) _)),hk.start.alloc _,zA4 _ _,(hx.old (fun k h1 h2=>⟨by simp[From] at h1;omega,kB4 h2⟩)).below ((kA3 _ _).alloc (kA2 _) _),
    (kA4 _ _ _ (zA5 (hk.blk (zA4 w zO) hne0))).trans (hk.blk (zA4 w zO) hne0)⟩
  have hXR:w1.heap.size≠R:=kAq hk.rdr.lt;have hXw:w.heap.size<w1.heap.size:=zA5 (hk.blk (zA4 w zO) hne0);generalize w1.heap.size=X at *;generalize hW:w1.alloc _=W at *;clear hW hk hx hp0 h0;generalize hres:zBu ts en chk ex (ts.length+1) x n=res;go_loopg [] (ts.length+1) (fun k wr=>∃x n v5,m<n∧now<n∧n≤ts.length∧ts.length<n+k∧Gath W0 R B ts en w X wr x n v5∧Hid (zBu ts en chk ex k x n=res))
  case atStart=>exact⟨x,n,_,kCT,hn1,hn2,kCT,g1,hres⟩
  case round =>
   clear g1 hres hn1 hn2;obtain⟨x,n,v5,hmn,hnn,hnl,hfuel,G,Hres⟩:=hrel;obtain⟨_,A5,n5,c5,h5,rfl,_,_⟩:=G.val.cells;obtain rfl:=zCe h5
   cases gk with
   | zero=>omega
   | succ gk =>
   cases h1:sk ts en n ⟨#[42]⟩ with
   | true =>
    have hs:=zAE R ts n en ⟨#[42]⟩ wr G.st.rdr few h1;have hlt:=zAs h1
    cases hc:zCv ts en chk ex (n+1) with
    | error p =>
     have Hres':Hid (res=.error p):=by
      have:=Hres.out;unfold zBu at this;rw[kAa h1,hc] at this;exact kA1 this.symm
     go_wp2_with fail;refine hs.mono ?_;rintro e w1 ⟨rfl,hk1⟩;have G1:=G.go E hRw hXw hk1 hlt;obtain⟨⟨p0,p1,p2,p3,p4,p5⟩,-,xl⟩:=zA6 G1.blk;have G1d:=G1.below ((kA3 _ w1).drew);have hp1:=HP.out (n+1) _ kCT G1d.st;rw[hc] at hp1;unfold zAj at hp1;unfold zAk at hp1;clear hc;go_wp2_with fail;refine kB2 (S:=(fun w'=>w'.cell? ⟨X,0,none⟩=some (Value.int IntKind.i64 x.f0)∧w'.cell? ⟨X,1,none⟩=some (Value.string x.f1.f0)∧w'.cell? ⟨X,2,none⟩=some (Value.string x.f1.f1)∧w'.cell? ⟨X,3,none⟩=some (Value.string x.f2)∧w'.cell? ⟨X,4,none⟩=some (Value.int IntKind.i64 x.f3)∧w'.cell? ⟨X,5,none⟩=some (.slice A5 n5 c5))) kCU (zA6 G1d.blk).1 (fun hHeld=>?_);refine kAu (i:=0) (v:=?v0c1) rfl kCU kCU kCU (fun _ _ _ h=>h) (Or.inl ⟨kCY,?hy0c1⟩) kD0 ?rest0c1
     case hy0c1=>(intro w hSw;(try dsimp only at hSw);go_simp;try (with_reducible rfl))
     try simp only[Act.put,kA0,List.set_cons_zero,List.set_cons_succ]
     refine kAu (i:=1) (v:=?v1c2) rfl kCU kCU kCU (fun _ _ _ h=>h) (Or.inl ⟨kCY,?hy1c2⟩) kD0 ?rest1c2
     case hy1c2=>(intro w hSw;(try dsimp only at hSw);go_simp;try (with_reducible rfl))
     try simp only[Act.put,kA0,List.set_cons_zero,List.set_cons_succ]
     refine kBJ (rs:=[2]) kCU kCV ?_;refine kBz rfl (fun K hK=>?_) kBF;go_simp;go_wp2_with (go_at_call 180;refine hp1.mono ?_;rintro e w2 ⟨rfl,hg2⟩);rw[Hres'.out];exact⟨rfl,rfl,kA6 G1d.took.grown hg2⟩
    | ok r =>
     obtain⟨y,n2⟩:=r;have Hres':Hid (zBu ts en chk ex gk (twoX 5 x y) n2=res):=by
      have:=Hres.out;unfold zBu at this;rw[kAa h1,hc] at this;exact kA1 this
     go_wp2_with fail;refine hs.mono ?_;rintro e w1 ⟨rfl,hk1⟩;have G1:=G.go E hRw hXw hk1 hlt;obtain⟨⟨p0,p1,p2,p3,p4,p5⟩,-,xl⟩:=zA6 G1.blk;have G1d:=G1.below ((kA3 _ w1).drew);have hp1:=HP.out (n+1) _ kCT G1d.st;rw[hc] at hp1;unfold zAj at hp1;clear hc;go_wp2_with fail
     go_region_with ((first
      | (go_at_call 180;refine hp1.mono ?_;rintro e w2 ⟨hn1,hn2,vy,rfl,hy,hk2⟩;have G2:=G1d.go E hRw hXw hk2 hn2;have hw:=G1d.two 5 E hRw hXw hy hk2 hn2;obtain⟨⟨q0,q1,q2,q3,q4,q5⟩,-,lt2⟩:=zA6 G2.blk)
      | (go_at_call 161;refine hw.mono ?_;rintro e w3 ⟨u,A,N,C,rfl,rfl,G3,hu⟩;obtain⟨⟨r0,r1,r2,r3,r4,r5⟩,⟨f0,f1,f2,f3,f4,f5⟩,lt3⟩:=zA6 G3.blk;simp only[exV,twoX])))
     all_goals
      have G4:=G3.store E hRw hXw hu;go_wp2;go_roundg gk
      case measure=>omega
      case rel=>exact⟨_,n2,_,kCT,kCT,hn2,kCT,G4,Hres'⟩
   | false =>
    have hs:=zAQ R ts n en ⟨#[42]⟩ wr G.st.rdr hnl h1
    cases h2:sk ts en n ⟨#[47]⟩ with
    | true =>
     have hlt:=zAs h2
     cases hc:zCv ts en chk ex (n+1) with
     | error p =>
      have Hres':Hid (res=.error p):=by
       have:=Hres.out;unfold zBu at this;rw[kA9 kDa,kAa h2,hc] at this;exact kA1 this.symm
      go_wp2_with fail;refine hs.mono ?_;rintro e w0 ⟨rfl,hk0⟩;have G0:=G.go E hRw hXw hk0 hnl;have hs2:=zAE R ts n en ⟨#[47]⟩ w0 G0.st.rdr few h2;go_wp2_with fail;refine hs2.mono ?_;rintro e w1 ⟨rfl,hk1⟩;have G1:=G0.go E hRw hXw hk1 hlt;obtain⟨⟨p0,p1,p2,p3,p4,p5⟩,-,xl⟩:=zA6 G1.blk;have G1d:=G1.below ((kA3 _ w1).drew);have hp1:=HP.out (n+1) _ kCT G1d.st;rw[hc] at hp1;unfold zAj at hp1;unfold zAk at hp1;clear hc;go_wp2_with fail;refine kB2 (S:=(fun w'=>w'.cell? ⟨X,0,none⟩=some (Value.int IntKind.i64 x.f0)∧w'.cell? ⟨X,1,none⟩=some (Value.string x.f1.f0)∧w'.cell? ⟨X,2,none⟩=some (Value.string x.f1.f1)∧w'.cell? ⟨X,3,none⟩=some (Value.string x.f2)∧w'.cell? ⟨X,4,none⟩=some (Value.int IntKind.i64 x.f3)∧w'.cell? ⟨X,5,none⟩=some (.slice A5 n5 c5))) kCU (zA6 G1d.blk).1 (fun hHeld=>?_);refine kAu (i:=0) (v:=?v0c3) rfl kCU kCU kCU (fun _ _ _ h=>h) (Or.inl ⟨kCY,?hy0c3⟩) kD0 ?rest0c3
      case hy0c3=>(intro w hSw;(try dsimp only at hSw);go_simp;try (with_reducible rfl))
      try simp only[Act.put,kA0,List.set_cons_zero,List.set_cons_succ]
      refine kAu (i:=1) (v:=?v1c4) rfl kCU kCU kCU (fun _ _ _ h=>h) (Or.inl ⟨kCY,?hy1c4⟩) kD0 ?rest1c4
      case hy1c4=>(intro w hSw;(try dsimp only at hSw);go_simp;try (with_reducible rfl))
      try simp only[Act.put,kA0,List.set_cons_zero,List.set_cons_succ]
      refine kBJ (rs:=[2]) kCU kCV ?_;refine kBz rfl (fun K hK=>?_) kBF;go_simp;go_wp2_with (go_at_call 180;refine hp1.mono ?_;rintro e w2 ⟨rfl,hg2⟩);rw[Hres'.out];exact⟨rfl,rfl,kA6 G1d.took.grown hg2⟩
     | ok r =>
      obtain⟨y,n2⟩:=r;have Hres':Hid (zBu ts en chk ex gk (twoX 6 x y) n2=res):=by
       have:=Hres.out;unfold zBu at this;rw[kA9 kDa,kAa h2,hc] at this;exact kA1 this
      go_wp2_with fail;refine hs.mono ?_;rintro e w0 ⟨rfl,hk0⟩;have G0:=G.go E hRw hXw hk0 hnl;have hs2:=zAE R ts n en ⟨#[47]⟩ w0 G0.st.rdr few h2;go_wp2_with fail;refine hs2.mono ?_;rintro e w1 ⟨rfl,hk1⟩;have G1:=G0.go E hRw hXw hk1 hlt;obtain⟨⟨p0,p1,p2,p3,p4,p5⟩,-,xl⟩:=zA6 G1.blk;have G1d:=G1.below ((kA3 _ w1).drew);have hp1:=HP.out (n+1) _ kCT G1d.st;rw[hc] at hp1;unfold zAj at hp1;clear hc;go_wp2_with fail
      go_region_with ((first
       | (go_at_call 180;refine hp1.mono ?_;rintro e w2 ⟨hn1,hn2,vy,rfl,hy,hk2⟩;have G2:=G1d.go E hRw hXw hk2 hn2;have hw:=G1d.two 6 E hRw hXw hy hk2 hn2;obtain⟨⟨q0,q1,q2,q3,q4,q5⟩,-,lt2⟩:=zA6 G2.blk)
       | (go_at_call 161;refine hw.mono ?_;rintro e w3 ⟨u,A,N,C,rfl,rfl,G3,hu⟩;obtain⟨⟨r0,r1,r2,r3,r4,r5⟩,⟨f0,f1,f2,f3,f4,f5⟩,lt3⟩:=zA6 G3.blk;simp only[exV,twoX])))
      all_goals
       have G4:=G3.store E hRw hXw hu;go_wp2;go_roundg gk
       case measure=>omega
       case rel=>exact⟨_,n2,_,kCT,kCT,hn2,kCT,G4,Hres'⟩
    | false =>
     have Hres':Hid (res=.ok (x,n)):=by
      have:=Hres.out;unfold zBu at this;rw[kA9 kDa,kA9 kDp] at this;exact kA1 this.symm
     go_wp2_with fail;refine hs.mono ?_;rintro e w0 ⟨rfl,hk0⟩;have G0:=G.go E hRw hXw hk0 hnl;have hs2:=zAQ R ts n en ⟨#[47]⟩ w0 G0.st.rdr hnl h2;go_wp2_with fail;refine hs2.mono ?_;rintro e w1 ⟨rfl,hk1⟩;have G1:=G0.go E hRw hXw hk1 hnl;obtain⟨⟨p0,p1,p2,p3,p4,p5⟩,-,xl⟩:=zA6 G1.blk;obtain⟨⟨q0,q1,q2,q3,q4,q5⟩,⟨f0,f1,f2,f3,f4,f5⟩,xl2⟩:=zA6 G1.res;go_wp2;rw[Hres'.out];refine kAi (zAg Tryz.results160 _ _ w.heap.size 31 _ (0,0) _ rfl (fin6 _ _ _ _ _ _ G1.res) Tryz.underlying31 rfl zAV) rfl ⟨hnn,hnl,_,rfl,?_,?_⟩
     ·exact (G1.val.set6 (fun k hk=>kAq hk.1) _ _ _ _ _ _).mono (fun k hk=>kAX hk.1)
     ·exact G1.took.set6 G1.res hne0 (kA2 _) _ _ _ _ _ _
def zDc (op:Int):TypeId:=if op=13∨op=12∨op=10∨op=11 then 150 else if op=3∨op=4∨op=5∨op=6 then 152 else if op=2 then 154 else if op=7∨op=9 then 155 else 156
theorem zBg (x:S31) (A:Option Addr) (n c:Nat) (w:World):Calls Tryz.prog 96 #[exV x (.slice A n c)] w fun e w'=>e=.returned (.iface (zDc x.f0) (exV x (.slice A n c)))∧Below w.heap.size w w':=by
 obtain⟨op,num,name,size,xs⟩:=x;unfold exV;simp only;by_cases h:op=13∨op=12∨op=10∨op=11∨op=3∨op=4∨op=5∨op=6∨op=2∨op=7∨op=9
 ·rcases h with rfl | rfl | rfl | rfl | rfl | rfl | rfl | rfl | rfl | rfl | rfl
  all_goals
   go_enter Tryz.func96,Tryz.ntmps96;go_wp2;go_ret;exact⟨rfl,(kA3 _ w).alloc (kA2 _) _⟩
 ·have e:zDc op=156:=by unfold zDc;rw[kA9 kCT,kA9 kCT,kA9 kCT,kA9 kCT]
  rw[e];have h2:=zAF (a:=op) (b:=2) kCT;have h3:=zAF (a:=op) (b:=3) kCT;have h4:=zAF (a:=op) (b:=4) kCT;have h5:=zAF (a:=op) (b:=5) kCT;have h6:=zAF (a:=op) (b:=6) kCT;have h7:=zAF (a:=op) (b:=7) kCT;have h9:=zAF (a:=op) (b:=9) kCT;have h10:=zAF (a:=op) (b:=10) kCT;have h11:=zAF (a:=op) (b:=11) kCT;have h12:=zAF (a:=op) (b:=12) kCT;have h13:=zAF (a:=op) (b:=13) kCT;clear e h;go_enter Tryz.func96,Tryz.ntmps96;go_wp2;go_ret;exact⟨rfl,(kA3 _ w).alloc (kA2 _) _⟩
def cat (xs:List ByteArray):ByteArray:=⟨(Lib.join (xs.map (·.data.toList)) []).toArray⟩
theorem cat_data (xs:List ByteArray):(cat xs).data.toList=(xs.map (·.data.toList)).flatten:=by
 show (Lib.join (xs.map (·.data.toList)) [])=_;unfold Lib.join;generalize xs.map (·.data.toList)=l
 induction l with
 | nil=>rfl
 | cons a l ih =>
  cases l with
  | nil=>simp[List.intercalate]
  | cons b l=>rw[List.intercalate_cons_cons];simp[ih]
theorem zAK (bk:Nat) (xs:List ByteArray) (t:TypeId) (w:World) (hb:w.heap[bk]?=some (.cells (xs.map Value.string).toArray t (0,0))) (hN:xs.length≤140737488355328) (hlen:(cat xs).size≤140737488355328) :
  Calls Tryz.prog 98 #[.slice (some ⟨bk,0,none⟩) xs.length xs.length] w fun e w'=>e=.returned (.string (cat xs))∧Below w.heap.size w w':=by
 have hj:=Tryz.strings_Join bk 0 xs.length xs ⟨#[]⟩ w (fun j x hx=>by
  have h1:=zA1 hb j;rw[kAH];refine h1.trans ?_;simp[hx]) (zA5 hb) hN (kA2 _) hlen
 go_enter Tryz.func98,Tryz.ntmps98;go_wp2_with (go_at_call 137;refine hj.mono ?_;rintro e w1 ⟨rfl,hb1⟩);go_ret;exact⟨rfl,hb1⟩
abbrev zE:Value:=.agg #[.int .i64 0,.string ⟨#[]⟩,.string ⟨#[]⟩,.string ⟨#[]⟩,.int .i64 0,.slice none 0 0]
theorem ta150_150 (v:Value) (w:World):(Instr.typeAssert (.iface 150 v) 147 150 true).run Tryz.prog w=.ok (.tuple #[v,.bool true]) w:=kCU
theorem zDt (v:Value) (w:World):(Instr.typeAssert (.iface 152 v) 147 150 true).run Tryz.prog w=.ok (.tuple #[zE,.bool false]) w:=kCU
theorem zEi (v:Value) (w:World):(Instr.typeAssert (.iface 152 v) 147 152 true).run Tryz.prog w=.ok (.tuple #[v,.bool true]) w:=kCU
theorem ta154_150 (v:Value) (w:World):(Instr.typeAssert (.iface 154 v) 147 150 true).run Tryz.prog w=.ok (.tuple #[zE,.bool false]) w:=kCU
theorem ta154_152 (v:Value) (w:World):(Instr.typeAssert (.iface 154 v) 147 152 true).run Tryz.prog w=.ok (.tuple #[zE,.bool false]) w:=kCU
theorem ta154_154 (v:Value) (w:World):(Instr.typeAssert (.iface 154 v) 147 154 true).run Tryz.prog w=.ok (.tuple #[v,.bool true]) w:=kCU
theorem ta155_150 (v:Value) (w:World):(Instr.typeAssert (.iface 155 v) 147 150 true).run Tryz.prog w=.ok (.tuple #[zE,.bool false]) w:=kCU
theorem ta155_152 (v:Value) (w:World):(Instr.typeAssert (.iface 155 v) 147 152 true).run Tryz.prog w=.ok (.tuple #[zE,.bool false]) w:=kCU
theorem ta155_154 (v:Value) (w:World):(Instr.typeAssert (.iface 155 v) 147 154 true).run Tryz.prog w=.ok (.tuple #[zE,.bool false]) w:=kCU
theorem ta155_155 (v:Value) (w:World):(Instr.typeAssert (.iface 155 v) 147 155 true).run Tryz.prog w=.ok (.tuple #[v,.bool true]) w:=kCU
theorem ta156_150 (v:Value) (w:World):(Instr.typeAssert (.iface 156 v) 147 150 true).run Tryz.prog w=.ok (.tuple #[zE,.bool false]) w:=kCU
theorem ta156_152 (v:Value) (w:World):(Instr.typeAssert (.iface 156 v) 147 152 true).run Tryz.prog w=.ok (.tuple #[zE,.bool false]) w:=kCU
theorem ta156_154 (v:Value) (w:World):(Instr.typeAssert (.iface 156 v) 147 154 true).run Tryz.prog w=.ok (.tuple #[zE,.bool false]) w:=kCU
theorem ta156_155 (v:Value) (w:World):(Instr.typeAssert (.iface 156 v) 147 155 true).run Tryz.prog w=.ok (.tuple #[zE,.bool false]) w:=kCU
theorem ta156_156 (v:Value) (w:World):(Instr.typeAssert (.iface 156 v) 147 156 true).run Tryz.prog w=.ok (.tuple #[v,.bool true]) w:=kCU
open Go.Lib in
theorem tab_below {w w':World} {name:String} {k:IntKind} {zs:List Int} (h:TabIs Tryz.prog w name k zs) (hb:Below w.heap.size w w'):TabIs Tryz.prog w' name k zs:=by
 unfold TabIs World.var? at *
 cases hg:Tryz.prog.globalNamed name with
 | none=>simp[hg] at h
 | some g =>
  simp only[hg,Option.bind_some] at h⊢;have hlt:g<w.heap.size:=by
   rcases kBW g w.heap.size with h' | h'
   ·exact h'
   ·rw[kCa h'] at h;simp at h
  rw[hb.block g hlt];exact h
theorem below_growN (w:World) (k:Nat) (os:Array Obj):Below w.heap.size w (Go.Sort.grow (w.drewN k) os):=by
 have h1:Below w.heap.size w (w.drewN k):=zA3 (kA3 _ w) k;have h2:Below w.heap.size (w.drewN k) (Go.Sort.grow (w.drewN k) os):=⟨rfl,rfl,rfl,by rw[Go.Sort.size_grow];omega,fun j hj=>Go.Sort.heap_grow_old _ _ (by have:=h1.size;omega)⟩;exact h1.trans h2
def Tab (w : World) : Prop := Lib.TabIs Tryz.prog w "internal/strconv.uint64pow10" .u64 Lib.pow10Tab
theorem Tab.below {w w':World} (h:Tab w) (hb:Below w.heap.size w w'):Tab w':=tab_below h hb
theorem itoa_calls (n:Int) (h0:-9223372036854775808≤n) (h1:n≤9223372036854775807) (w:World) (h:Tab w) :
  Calls Tryz.prog 100 #[.int .i64 n] w fun e w'=>e=.returned (.string ⟨(Lib.itoa n).toArray⟩)∧Below w.heap.size w w' :=
 (Tryz.strconv_Itoa n h0 h1 w h).mono fun _ _ ⟨he,k,os,hw⟩=>⟨he,by subst hw;exact below_growN _ _ _⟩
def levelX (x:S31):Int :=
 if x.f0=13∨x.f0=12∨x.f0=10∨x.f0=11 then 0 else if x.f0=3∨x.f0=4 then 1 else if x.f0=5∨x.f0=6 then 2 else if x.f0=2 then 1 else if x.f0=7 then 3 else if x.f0=9 then 4 else 5
def zFs (t:ByteArray) (lv least:Int):ByteArray:=if lv<least then cat [⟨#[40]⟩,t,⟨#[41]⟩] else t
theorem zCI {t:ByteArray} {lv least:Int} (h:lv<least):zFs t lv least=cat [⟨#[40]⟩,t,⟨#[41]⟩]:=kAa h
theorem zDg {t:ByteArray} {lv least:Int} (h:¬lv<least):zFs t lv least=t:=kA9 h
theorem zDk (xs:List ByteArray):(cat xs).size=(xs.map (·.size)).sum:=by
 show (cat xs).data.toList.length=_;rw[cat_data,List.length_flatten,List.map_map];rfl
def argT (ts:List (ByteArray×Int)) (i:Nat) (least:Int):ByteArray:=zFs (ts.getD i (⟨#[]⟩,0)).1 (ts.getD i (⟨#[]⟩,0)).2 least
def signOf (op:Int):UInt8:=if op=3 then 43 else if op=4 then 45 else if op=5 then 42 else 47
def openOf (op:Int) (num:S28) (name:ByteArray) (size:Int) (ts:List (ByteArray×Int)):ByteArray :=
 if op=2 then cat [⟨#[45]⟩,argT ts 0 2]
 else if op=3∨op=4 then cat [argT ts 0 1,⟨#[32]⟩,⟨#[signOf op]⟩,⟨#[32]⟩,argT ts 1 2]
 else if op=5∨op=6 then cat [argT ts 0 2,⟨#[32]⟩,⟨#[signOf op]⟩,⟨#[32]⟩,argT ts 1 3]
 else if op=7 then cat [argT ts 0 4,⟨#[94]⟩,⟨(Lib.itoa size).toArray⟩]
 else if op=9 then cat [argT ts 0 4,⟨#[91]⟩,argT ts 1 0,⟨#[93]⟩]
 else if op=1 then name
 else ⟨#[]⟩
mutual
def zDA:S31→ByteArray
 | ⟨op,num,name,size,l⟩=>openOf op num name size (argsX l)
def argsX:List S31→List (ByteArray×Int)
 | []=>[]
 | x :: l=>(zDA x,levelX x) :: argsX l
end
def zAy (x:S31) (least:Int):ByteArray:=zFs (zDA x) (levelX x) least
theorem m152 (v : Value) (w : World) : (method 467 152 v "metewand/read.level").run Tryz.prog w = .ok (99, v) w := by kernel_rfl
theorem m154 (v : Value) (w : World) : (method 467 154 v "metewand/read.level").run Tryz.prog w = .ok (310, v) w := by kernel_rfl
theorem m155 (v : Value) (w : World) : (method 467 155 v "metewand/read.level").run Tryz.prog w = .ok (311, v) w := by kernel_rfl
theorem m156 (v : Value) (w : World) : (method 467 156 v "metewand/read.level").run Tryz.prog w = .ok (312, v) w := by kernel_rfl
theorem lev154 (a b c d e f:Value) (w:World):Calls Tryz.prog 310 #[.agg #[a,b,c,d,e,f]] w fun en w'=>en=.returned (.int .i64 1)∧Below w.heap.size w w':=by
 go_enter Tryz.func310,Tryz.ntmps310;go_wp2;go_ret;exact⟨rfl,(kA3 _ w).alloc (kA2 _) _⟩
theorem lev156 (a b c d e f:Value) (w:World):Calls Tryz.prog 312 #[.agg #[a,b,c,d,e,f]] w fun en w'=>en=.returned (.int .i64 5)∧Below w.heap.size w w':=by
 go_enter Tryz.func312,Tryz.ntmps312;go_wp2;go_ret;exact⟨rfl,(kA3 _ w).alloc (kA2 _) _⟩
theorem lev155 (op:Int) (hop:op=7∨op=9) (b c d e f:Value) (w:World):Calls Tryz.prog 311 #[.agg #[.int .i64 op,b,c,d,e,f]] w fun en w'=>en=.returned (.int .i64 (if op=7 then 3 else 4))∧Below w.heap.size w w':=by
 rcases hop with rfl | rfl
 all_goals
  go_enter Tryz.func311,Tryz.ntmps311;go_wp2;go_ret;exact⟨rfl,(kA3 _ w).alloc (kA2 _) _⟩
theorem lev152 (op:Int) (hop:op=3∨op=4∨op=5∨op=6) (b c d e f:Value) (w:World):Calls Tryz.prog 99 #[.agg #[.int .i64 op,b,c,d,e,f]] w fun en w'=>en=.returned (.int .i64 (if op=3∨op=4 then 1 else 2))∧Below w.heap.size w w':=by
 rcases hop with rfl | rfl | rfl | rfl
 all_goals
  go_enter Tryz.func99,Tryz.ntmps99;go_wp2;go_ret;exact⟨rfl,(kA3 _ w).alloc (kA2 _) _⟩
theorem text_ahead (x y:S31) (hop:x.f0=2) (hxs:x.f4=[y]) (least:Int) (v:Value) (w:World) (hv:Vw w x v) (hsz:(zDA x).size≤1000000)
  (hrec:∀v w' ls,Vw w' y v→Below w.heap.size w w'→Calls Tryz.prog 58 #[v,.int .i64 ls] w' fun e w''=>e=.returned (.string (zAy y ls))∧Below w'.heap.size w' w'') :
  Calls Tryz.prog 58 #[v,.int .i64 least] w fun e w'=>e=.returned (.string (zAy x least))∧Below w.heap.size w w':=by
 obtain⟨A,c,rfl,hc1,hc2⟩:=hv.out;obtain⟨op,num,name,size,xs⟩:=x;simp only at hop hxs;subst hop hxs;obtain⟨r,hr⟩:∃r,r=zDA ⟨2,num,name,size,[y]⟩:=⟨_,rfl⟩;obtain⟨R,hR⟩:∃R,R=zAy ⟨2,num,name,size,[y]⟩ least:=⟨_,rfl⟩;have hR2:R=zFs r 1 least:=by rw[hR,hr];rfl
 rw[← hR];rw[← hr] at hsz;have HR2:=kA1 hR2;have hcat:r=cat [⟨#[45]⟩,zAy y 2]:=hr;have HCAT:=kA1 hcat;clear hR hR2 hr hcat;have hk:=zBg ⟨2,num,name,size,[y]⟩ A 1 c;unfold exV at *;simp only at *;have t1:=ta154_150;have t2:=ta154_152;have t3:=ta154_154;have HK:=kA1 hk;have HR:=kA1 hrec;have HC:=kA1 hc2;have HV:=kA1 hv;clear hk hrec hc2 hv;go_enter Tryz.func58,Tryz.ntmps58;go_wp2_with fail;refine (HK.out _).mono ?_;rintro e w1 ⟨rfl,hb1⟩;have hk2:zDc (S31.mk 2 num name size [y]).f0=154:=rfl;rw[hk2];have hbw:=((kA3 _ w).alloc (kA2 _) (.cells #[.int .i64 2,.string num.f0,.string num.f1,.string name,.int .i64 size,.slice A 1 c] 31)).trans (hb1.mono kCV);have hbw2:=hbw.alloc hbw.size (.cells #[.int .i64 2,.string num.f0,.string num.f1,.string name,.int .i64 size,.slice A 1 c] 154);obtain⟨ad,A5,c5,rfl,q0,q1,q2,q3,q4,q5,hvw⟩:=zAo (xs:=[y]) (Kd.C_below HC.out hbw2) 0 kCV;simp only[List.getElem_cons_zero,kBh,kAO] at q0 q1 q2 q3 q4 q5 hvw;go_wp2_with fail;refine (HR.out _ _ _ hvw hbw2).mono ?_;rintro e w2 ⟨rfl,hb2⟩;go_wp2_with fail;rw[HCAT.out] at hsz;have hj:=zAK w2.heap.size [⟨#[45]⟩,zAy y 2] 9 _ (zA4 w2 _) kCV kCT;simp only[List.length_cons,List.length_nil] at hj;refine hj.mono ?_;rintro e w3 ⟨rfl,hb3⟩;rw[← HCAT.out];have hm:=m154;have hbx:=hbw2.trans (hb2.mono hbw2.size);have hbw3:=(hbx.alloc hbx.size (.cells #[.string ⟨#[45]⟩,.string (zAy y 2)] 9)).trans (hb3.mono (by simp;have:=hbx.size;omega));have HL:=kA1 (fun a b c d e f w'=>lev154 a b c d e f w');have HB:=kA1 hbw3;clear hj hb1 hb2 hb3 HV HC HR HK t1 t2 t3 q0 q1 q2 q3 q4 q5 hvw hbw hbw2 hbx hbw3;have hrs:(cat [⟨#[40]⟩,r,⟨#[41]⟩]).size≤1000002:=by
  rw[← HCAT.out] at hsz;rw[zDk];simp;have e1:(⟨#[40]⟩:ByteArray).size=1:=rfl;have e2:(⟨#[41]⟩:ByteArray).size=1:=rfl;omega
 have HS:=kA1 hrs;clear hrs hsz
 cases hl':decide (1<least)
 ·have hl:=kA1 (kBm hl');go_wp2_with (go_at_call 310;refine (HL.out _ _ _ _ _ _ _).mono ?_;rintro e w4 ⟨rfl,hb4⟩);go_ret;exact⟨by rw[HR2.out,zDg kD7];rfl,HB.out.trans (hb4.mono HB.out.size)⟩
 ·have hl:=kA1 (kAl hl');go_wp2_with (go_at_call 310;refine (HL.out _ _ _ _ _ _ _).mono ?_;rintro e w4 ⟨rfl,hb4⟩);have hj:=zAK w4.heap.size [⟨#[40]⟩,r,⟨#[41]⟩] 9 _ (zA4 w4 _) kCV (kAB HS.out kCT);simp only[List.length_cons,List.length_nil] at hj;refine hj.mono ?_;rintro e w5 ⟨rfl,hb5⟩;go_wp2;go_ret;have h4:=HB.out.trans (hb4.mono HB.out.size);exact⟨by rw[HR2.out,zCI kD7];rfl,(h4.alloc h4.size (.cells #[.string ⟨#[40]⟩,.string r,.string ⟨#[41]⟩] 9)).trans (hb5.mono kDg)⟩
end Go.Proofs.YtjaobihcdkjmbaaGreatDoor
end
section
namespace Go.Proofs.YtjaobihcdkjmbaaGreatDoor
open Go.RowKit Go.Maps Go.Proofs.YtjaobihcdkjmbaaGreatDoorW.PrintWords Go.Proofs.YtjaobihcdkjmbaaGreatDoor.PReadTokens
theorem kindT4 {op:Int} (h:op≠10∧op≠11∧op≠12∧op≠13):zDc op=152∨zDc op=154∨zDc op=155∨zDc op=156:=by
 unfold zDc;rw[kA9 kCT];by_cases h1:op=3∨op=4∨op=5∨op=6
 ·rw[kAa h1];exact .inl rfl
 ·rw[kA9 h1];by_cases h2:op=2
  ·rw[kAa h2];exact .inr (.inl rfl)
  ·rw[kA9 h2];by_cases h3:op=7∨op=9
   ·rw[kAa h3];exact .inr (.inr (.inl rfl))
   ·rw[kA9 h3];exact .inr (.inr (.inr rfl))
theorem ta_other {t:TypeId} (h:t=152∨t=154∨t=155∨t=156) (v:Value) (w:World):(Instr.typeAssert (.iface t v) 147 150 true).run Tryz.prog w=.ok (.tuple #[zE,.bool false]) w:=by
 rcases h with rfl | rfl | rfl | rfl
 ·exact zDt v w
 ·exact ta154_150 v w
 ·exact ta155_150 v w
 ·exact ta156_150 v w
theorem binds_no (x:S31) (A:Option Addr) (n c:Nat) (h:x.f0≠10∧x.f0≠11∧x.f0≠12∧x.f0≠13) (w:World) :
  Calls Tryz.prog 109 #[exV x (.slice A n c)] w fun e w'=>e=.returned (.tuple #[.int .i64 0,.bool false])∧Below w.heap.size w w':=by
 have hk:=zBg x A n c;have hta:=fun v w=>ta_other (kindT4 h) v w
 obtain⟨f0,f1,f2,f3,xs⟩:=x;simp only at *;generalize zDc f0=kt at *;unfold exV at *;simp only at *;clear h;go_enter Tryz.func109,Tryz.ntmps109;go_wp2_with (go_at_call 96;refine (hk _).mono ?_;rintro e w1 ⟨rfl,hb1⟩);refine kAi (results_tmp2 rfl _ _ _) rfl ⟨rfl,?_⟩;have h1:=((kA3 _ w).alloc (kA2 _) (.cells #[.int .i64 f0,.string f1.f0,.string f1.f1,.string f2,.int .i64 f3,.slice A n c] 31)).trans (hb1.mono kCV);exact h1.alloc h1.size _
theorem law9:Keyed Tryz.prog 9:=string_keyed Tryz.underlying9
abbrev MapAt (w:World) (b n:Nat) (D:DataW Unit):Prop:=w.ownsMap Tryz.prog 9 (plainElem Tryz.prog 4) b n D
theorem zDT (bd bs nd ns:Nat) (Dd Ds:DataW Unit) (w:World) (hd:MapAt w bd nd Dd) (hs:MapAt w bs ns Ds) (hne:bd≠bs) (hroom:nd+Maps.size Ds≤maxLen) :
  Calls Tryz.prog 110 #[.map (some bd),.map (some bs)] w fun e w'=>e=.returned (.tuple #[])∧MapAt w' bd (nd+Maps.size Ds) (Lib.mergeD Dd Ds)∧w.grownBy w' (some bd) :=
 (AnyX.maps_Copy Tryz.copy110 law9 (plainElem Tryz.prog 4) bd bs nd ns Dd Ds w hd hs hne hroom).mono fun _ _ ⟨h1,h2,_,h4⟩=>⟨h1,h2,h4⟩
def ownD (x:S31):DataW Unit:=if x.f0=1 then (DataW.map []).put (.string x.f2.data.toList) (.lit (.bool true)) else .map []
def zEy (op:Int):Int:=if op=13 then 1 else 0
def zG5 (op:Int):Bool:=decide (op=10)||decide (op=11)||decide (op=13)
theorem binds_calls (x:S31) (A:Option Addr) (n c:Nat) (w:World) :
  Calls Tryz.prog 109 #[exV x (.slice A n c)] w fun e w'=>e=.returned (.tuple #[.int .i64 (zEy x.f0),.bool (zG5 x.f0)])∧Below w.heap.size w w':=by
 by_cases h:x.f0≠10∧x.f0≠11∧x.f0≠12∧x.f0≠13
 ·refine (binds_no x A n c h w).mono ?_;rintro e w' ⟨rfl,hb⟩;refine⟨?_,hb⟩;have e1:zEy x.f0=0:=by unfold zEy;rw[kA9 h.2.2.2]
  have e2:zG5 x.f0=false:=by unfold zG5;simp[h.1,h.2.1,h.2.2.2]
  rw[e1,e2]
 ·have hk:=zBg x A n c;obtain⟨f0,f1,f2,f3,xs⟩:=x;simp only at *;have hta:=ta150_150;have h4:f0=10∨f0=11∨f0=12∨f0=13:=kCT
  clear h;unfold exV at *;simp only at *;have k10:zDc 10=150:=rfl;have k11:zDc 11=150:=rfl;have k12:zDc 12=150:=rfl;have k13:zDc 13=150:=rfl;rcases h4 with rfl | rfl | rfl | rfl
  all_goals
   go_enter Tryz.func109,Tryz.ntmps109;go_wp2_with (go_at_call 96;refine (hk _).mono ?_;rintro e w1 ⟨rfl,hb1⟩);have h1:=((kA3 _ w).alloc (kA2 _) (.cells #[.int .i64 _,.string f1.f0,.string f1.f1,.string f2,.int .i64 f3,.slice A n c] 31)).trans (hb1.mono kCV);refine kAi (results_tmp2 rfl _ _ _) rfl ⟨rfl,?_⟩;exact h1.alloc h1.size _
def zCN (op:Int) (i:Nat):Bool:=zG5 op&&decide (zEy op≤(i:Int))
def ownDel (op:Int) (name:ByteArray) (i:Nat) (D:DataW Unit):DataW Unit:=if zCN op i then D.del (.string name.data.toList) else D
mutual
/-- The names that an expression's map of free names holds. -/
def zEv:S31→DataW Unit
 | ⟨op,num,name,size,l⟩=>zCK op name 0 (ownD ⟨op,num,name,size,[]⟩) l
def zCK (op:Int) (name:ByteArray):Nat→DataW Unit→List S31→DataW Unit
 | _,D,[]=>D
 | i,D,x :: l=>zCK op name (i+1) (Lib.mergeD D (ownDel op name i (zEv x))) l
end
theorem freeG_eq (x:S31):zEv x=zCK x.f0 x.f2 0 (ownD x) x.f4:=by cases x;rfl
theorem mergeG_append (op:Int) (name:ByteArray) (l m:List S31):∀i D,zCK op name i D (l++m)=zCK op name (i+l.length) (zCK op name i D l) m:=by
 induction l with
 | nil=>intro i D;rfl
 | cons x l ih =>
  intro i D;have:=ih (i+1) (Lib.mergeD D (ownDel op name i (zEv x)));simp only[List.cons_append,zCK,List.length_cons];rw[this,show i+1+l.length=i+(l.length+1) by omega]
theorem mergeG_take (op:Int) (name:ByteArray) (D:DataW Unit) (l:List S31) (j:Nat) (h:j<l.length) :
  zCK op name 0 D (l.take (j+1))=Lib.mergeD (zCK op name 0 D (l.take j)) (ownDel op name j (zEv l[j])):=by
 rw[zCC l j h,mergeG_append,kAh,kAU (kAX h),kAH];rfl
mutual
/-- Names that are no great strings. -/
def zDv:S31→Bool
 | ⟨_,_,c,_,l⟩=>decide (c.size≤4611686018427387904)&&zF2 l
def zF2:List S31→Bool
 | []=>true
 | x :: l=>zDv x&&zF2 l
end
theorem smallB_eq (x:S31):zDv x=(decide (x.f2.size≤4611686018427387904)&&zF2 x.f4):=by cases x;rfl
theorem smallL_mem {l:List S31} (h:zF2 l=true) {x:S31} (hx:x∈l):zDv x=true:=by
 induction l with
 | nil=>simp at hx
 | cons y l ih =>
  simp only[zF2,kAj] at h;rcases kAI.1 hx with rfl | hx
  ·exact h.1
  ·exact ih h.2 hx
structure FreeGt (w:World) (op:Int) (name:ByteArray) (D:DataW Unit) (xs:List S31) (B j:Nat) (wr:World):Prop where
 map:MapAt wr B (1+zAP (xs.take j)) (zCK op name 0 D (xs.take j))
 below:Below w.heap.size w wr
theorem freeG_calls:∀(n:Nat) (x:S31),zAC x≤n→zAH x≤4611686018427387904→zDv x=true→∀(v:Value) (w:World),Vw w x v →
  Calls Tryz.prog 73 #[v] w fun e w'=>∃b,e=.returned (.map (some b))∧w.heap.size≤b∧MapAt w' b (zAH x) (zEv x)∧Below w.heap.size w w':=by
 intro n
 induction n with
 | zero=>intro x h;rw[zAr] at h;omega
 | succ n ih =>
  intro x hd hn hb v w hv;obtain⟨A,c,rfl,hc1,hc2⟩:=hv.out;rw[smallB_eq,kAj,kAN] at hb;obtain⟨hns,hb2⟩:=hb;rw[zAr] at hd;rw[zBx] at hn;have hrec:∀(j:Nat) (hj:j<x.f4.length) v w,Vw w x.f4[j] v→Calls Tryz.prog 73 #[v] w fun e w'=>∃b,e=.returned (.map (some b))∧w.heap.size≤b∧MapAt w' b (zAH x.f4[j]) (zEv x.f4[j])∧Below w.heap.size w w':=by
   intro j hj;have h1:=zB7 (kAA hj);have h2:=zDN (kAA hj);exact ih _ kCT kCT (smallL_mem hb2 (kAA hj))
  have hbn:=fun w'=>binds_calls x A x.f4.length c w'
  have hkey:keyOf Tryz.prog 9 (.string x.f2)=some (.string x.f2.data.toList):=Go.WideMaps.keyOf_string_mk Tryz.underlying9 kDb;have hD:∃D,D=ownD x:=⟨_,rfl⟩;obtain⟨D,hD⟩:=hD;have hDe:=hD;unfold ownD at hDe;have hmt:=mergeG_take x.f0 x.f2 D x.f4;have hnt:=zFN x.f4;have hnl:=zE2 x.f4;have hlen:=zCy x.f4;have htk:x.f4.take x.f4.length=x.f4:=kB1;have hfe:zEv x=zCK x.f0 x.f2 0 D x.f4:=by rw[freeG_eq,← hD]
  rw[hfe,zBx];have hmm:=@run_makeMap Tryz.prog;obtain⟨f0,f1,f2,f3,xs⟩:=x;simp only at *;clear ih hv hb2 hfe hD hns;unfold exV at *;simp only at *;have HR:=kA1 hrec;have HN:=kA1 hnt;have HM:=kA1 hmt;have HNL:=kA1 hnl;have HT:=kA1 htk;have HC:=kA1 hc2;obtain⟨bf,hbf⟩:∃k,k=zEy f0:=⟨_,rfl⟩;obtain⟨bY,hbY⟩:∃k,k=zG5 f0:=⟨_,rfl⟩;rw[← hbf,← hbY] at hbn;have hba:∀i:Nat,zCN f0 i=(bY&&decide (bf≤(i:Int))):=fun i=>by rw[hbf,hbY];rfl
  have HBA:=kA1 hba;have HB:=kA1 hbn;have HK:=kA1 hkey;clear hrec hnt hmt hnl htk hc2 hbn hkey hbf hbY hba;by_cases hop:f0=1
  ·rw[kAa hop] at hDe;have HD:=kA1 hDe;clear hDe;have hop':(f0==1)=true:=by rw[hop];rfl
   clear hop;go_enter Tryz.func73,Tryz.ntmps73;go_wp2_with (first
    | (at_mapUpdate;refine wpList_mapUpdate_own _ rfl _ _ _ 116 rfl 9 4 law9 Tryz.underlying116 (plainElem Tryz.prog 4) (w.heap.size+1) 0 (.map []) rfl (by have:=World.ownsMap_made (H:=Unit) (w.alloc (.cells #[.int .i64 f0,.string f1.f0,.string f1.f1,.string f2,.int .i64 f3,.slice A xs.length c] 31)) Tryz.prog 9 (plainElem Tryz.prog 4);rwa [kAz] at this) kDb _ _ _ rfl rfl HK.out _ [] (plainElem_bool Tryz.underlying4 true) ?_))
   intro w1 hown1 hgrow1;rw[← HD.out] at hown1;have hbx:=(hgrow1.block w.heap.size kCX kCZ).trans ((kA4 _ _ _ kCV).trans (zA4 w (.cells #[.int .i64 f0,.string f1.f0,.string f1.f1,.string f2,.int .i64 f3,.slice A xs.length c] 31)));have hbe:Below w.heap.size w w1:=(((kA3 _ w).alloc (kA2 _) (.cells #[.int .i64 f0,.string f1.f0,.string f1.f1,.string f2,.int .i64 f3,.slice A xs.length c] 31)).alloc kCV (.map #[] 0)).grown hgrow1 kCX (fun k e=>by injection e with e;omega);clear hgrow1 hop';have BX:=kA1 hbx;have hb1:=kA1 hbe;obtain⟨⟨q0,q1,q2,q3,q4,q5⟩,_,xl⟩:=zA6 hbx;clear hbx hbe;go_wp2_with fail;refine (HB.out _).mono ?_;rintro e w2 ⟨rfl,hb2⟩;have hx2:=zA9 hb2 BX.out;obtain⟨⟨p0,p1,p2,p3,p4,p5⟩,_,xl2⟩:=zA6 hx2;have HX2:=kA1 hx2;have hat:FreeGt w f0 f2 D xs (w.heap.size+1) 0 w2:=⟨by simpa[zAP,zCK] using hown1.kept (row:=none) ⟨hb2.os,hb2.tape,hb2.output,hb2.size,fun k hk _=>hb2.block k hk⟩ kCV,hb1.out.trans (hb2.mono hb1.out.size)⟩;clear hx2 hown1 q0 q1 q2 q3 q4 q5 xl;go_wp2;go_loopg [24] xs.length (fun k i wr=>∃j:Nat,j+k=xs.length∧i=.int .i64 j∧FreeGt w f0 f2 D xs (w.heap.size+1) j wr∧Hid (wr.heap[w.heap.size]?=some (.cells #[.int .i64 f0,.string f1.f0,.string f1.f1,.string f2,.int .i64 f3,.slice A xs.length c] 31 (0,0))))
   case atStart=>exact⟨0,kCT,rfl,hat,HX2⟩
   case round =>
    clear hat HX2 p0 p1 p2 p3 p4 p5 xl2;obtain⟨j,hj,rfl,hat,HX⟩:=hrel;by_cases hjl:j<xs.length
    ·obtain⟨ad,A5,c5,rfl,q0,q1,q2,q3,q4,q5,hvw⟩:=zAo (Kd.C_below HC.out hat.below) j hjl;have hr:=HR.out j hjl;have hn1:=HN.out j hjl;have hm1:=HM.out j hjl;have hn2:=HNL.out (j+1);generalize xs[j]=y at *;have Hvw:=kA1 hvw;clear hvw;go_wp2_with fail;refine (hr _ _ (Hvw.out.below ((kA3 _ _).alloc (kA2 _) _))).mono ?_;rintro e w3 ⟨b,rfl,hbge,hmap3,hb3⟩;have hbl:Below wr.heap.size wr w3:=((kA3 _ _).alloc (kA2 _) _).trans (hb3.mono kCV);have hB3:MapAt w3 (w.heap.size+1) (1+zAP (xs.take j)) (zCK f0 f2 0 D (xs.take j)):=hat.map.kept (row:=none) ⟨hbl.os,hbl.tape,hbl.output,hbl.size,fun k hk _=>hbl.block k hk⟩ kCV;have hBlt:=hat.map.lt;simp only[kAz] at hbge;have hsz:=hmap3.size_le;have hw3:=hat.below.trans (hbl.mono hat.below.size);have HW:=kA1 hw3;have hx3:=zA9 hbl HX.out;have HX3:=kA1 hx3;clear hr hat hbl hb3;have hbat:=HBA.out j;unfold ownDel at hm1;rw[hbat] at hm1;clear hbat
     cases hins:(bY&&decide (bf≤(j:Int)))
     ·rw[hins,kA9 kCV] at hm1;have hcp:=zDT (w.heap.size+1) b _ _ _ _ w3 hB3 hmap3 kCT kDb;have hsplit:bY=false∨(bY=true∧decide (bf≤(j:Int))=false):=by
       cases bY
       ·exact .inl rfl
       ·exact .inr ⟨rfl,by simpa using hins⟩
      clear hmap3 hB3 hins hx3;rcases hsplit with rfl | ⟨rfl,hdf⟩
      all_goals
       go_wp2_with fail;refine hcp.mono ?_;rintro e w4 ⟨rfl,hm4,hg4⟩;have hat4:FreeGt w f0 f2 D xs (w.heap.size+1) (j+1) w4:=by
        refine⟨?_,HW.out.grown hg4 HW.out.size (fun k e=>by injection e with e;omega)⟩;rw[hm1,hn1];exact hm4.mono kCT
       have HX4:=kA1 ((hg4.block _ (zA5 HX3.out) kCZ).trans HX3.out);clear hm4 hg4 hcp hw3;go_wp2;go_roundg (gk-1)
       case measure=>omega
       case rel=>exact⟨j+1,zCF hj hjl,by go_num,hat4,HX4⟩
     ·rw[hins,kAa rfl] at hm1;obtain⟨rfl,hdf⟩:bY=true∧decide (bf≤(j:Int))=true:=by simpa[kAj] using hins
      obtain⟨⟨g0,g1,g2,g3,g4,g5⟩,_,gl⟩:=zA6 hx3;have HB3:=kA1 hB3;have HM3:=kA1 hmap3;clear hins hx3 hmap3 hB3;go_wp2_with (at_delete;refine wpList_delete_own _ rfl _ _ 116 9 rfl 4 law9 Tryz.underlying116 (plainElem Tryz.prog 4) b _ _ rfl HM3.out _ _ rfl HK.out ?_;intro w5 hown5 hturn5);have hg5:=hturn5.grown;have hB5:=HB3.out.kept hg5 kCZ;have hx5:=(hg5.block _ (zA5 HX3.out) kCZ).trans HX3.out;have HX5:=kA1 hx5;have hw5:=HW.out.grown hg5 HW.out.size (fun k e=>by injection e with e;omega);have hs5:=hown5.size_le;have HW5:=kA1 hw5;have hcp:=zDT (w.heap.size+1) b _ _ _ _ w5 hB5 hown5 kCT kDb;clear hown5 hturn5 hg5 hB5 hx5 hw5 g0 g1 g2 g3 g4 g5;go_wp2_with fail;refine hcp.mono ?_;rintro e w4 ⟨rfl,hm4,hg4⟩;have hat4:FreeGt w f0 f2 D xs (w.heap.size+1) (j+1) w4:=by
       refine⟨?_,HW5.out.grown hg4 HW5.out.size (fun k e=>by injection e with e;omega)⟩;rw[hm1,hn1];exact hm4.mono kCT
      have HX4:=kA1 ((hg4.block _ (zA5 HX5.out) kCZ).trans HX5.out);clear hm4 hg4 hcp hw3;go_wp2;go_roundg (gk-1)
      case measure=>omega
      case rel=>exact⟨j+1,zCF hj hjl,by go_num,hat4,HX4⟩
    ·obtain rfl:j=xs.length:=kCT
     go_wp2;go_ret;have h1:=hat.map;rw[HT.out] at h1;exact⟨_,rfl,kCT,h1.mono kCT,hat.below⟩
  ·rw[kA9 hop] at hDe;have HD:=kA1 hDe;have hop':=zAF hop;have hown0:MapAt ((w.alloc (.cells #[.int .i64 f0,.string f1.f0,.string f1.f1,.string f2,.int .i64 f3,.slice A xs.length c] 31)).alloc (.map #[] 0)) (w.heap.size+1) 0 (.map []):=by have:=World.ownsMap_made (H:=Unit) (w.alloc (.cells #[.int .i64 f0,.string f1.f0,.string f1.f1,.string f2,.int .i64 f3,.slice A xs.length c] 31)) Tryz.prog 9 (plainElem Tryz.prog 4);rwa [kAz] at this
   rw[← HD.out] at hown0;have hown1:=hown0.mono (n':=1) kCT;have hbx:((w.alloc (.cells #[.int .i64 f0,.string f1.f0,.string f1.f1,.string f2,.int .i64 f3,.slice A xs.length c] 31)).alloc (.map #[] 0)).heap[w.heap.size]?=_:=(kA4 _ _ _ kCV).trans (zA4 w (.cells #[.int .i64 f0,.string f1.f0,.string f1.f1,.string f2,.int .i64 f3,.slice A xs.length c] 31));have hbe:Below w.heap.size w ((w.alloc (.cells #[.int .i64 f0,.string f1.f0,.string f1.f1,.string f2,.int .i64 f3,.slice A xs.length c] 31)).alloc (.map #[] 0)):=((kA3 _ w).alloc (kA2 _) _).alloc kCV _;clear hDe hop hown0;go_enter Tryz.func73,Tryz.ntmps73;go_wp2_with fail;generalize hw1:(w.alloc (.cells #[.int .i64 f0,.string f1.f0,.string f1.f1,.string f2,.int .i64 f3,.slice A xs.length c] 31)).alloc (.map #[] 0)=w1 at *;clear hw1 hop';have BX:=kA1 hbx;have hb1:=kA1 hbe;obtain⟨⟨q0,q1,q2,q3,q4,q5⟩,_,xl⟩:=zA6 hbx;clear hbx hbe;go_wp2_with fail;refine (HB.out _).mono ?_;rintro e w2 ⟨rfl,hb2⟩;have hx2:=zA9 hb2 BX.out;obtain⟨⟨p0,p1,p2,p3,p4,p5⟩,_,xl2⟩:=zA6 hx2;have HX2:=kA1 hx2;have hat:FreeGt w f0 f2 D xs (w.heap.size+1) 0 w2:=⟨by simpa[zAP,zCK] using hown1.kept (row:=none) ⟨hb2.os,hb2.tape,hb2.output,hb2.size,fun k hk _=>hb2.block k hk⟩ kCV,hb1.out.trans (hb2.mono hb1.out.size)⟩;clear hx2 hown1 q0 q1 q2 q3 q4 q5 xl;go_wp2;go_loopg [24] xs.length (fun k i wr=>∃j:Nat,j+k=xs.length∧i=.int .i64 j∧FreeGt w f0 f2 D xs (w.heap.size+1) j wr∧Hid (wr.heap[w.heap.size]?=some (.cells #[.int .i64 f0,.string f1.f0,.string f1.f1,.string f2,.int .i64 f3,.slice A xs.length c] 31 (0,0))))
   case atStart=>exact⟨0,kCT,rfl,hat,HX2⟩
   case round =>
    clear hat HX2 p0 p1 p2 p3 p4 p5 xl2;obtain⟨j,hj,rfl,hat,HX⟩:=hrel;by_cases hjl:j<xs.length
    ·obtain⟨ad,A5,c5,rfl,q0,q1,q2,q3,q4,q5,hvw⟩:=zAo (Kd.C_below HC.out hat.below) j hjl;have hr:=HR.out j hjl;have hn1:=HN.out j hjl;have hm1:=HM.out j hjl;have hn2:=HNL.out (j+1);generalize xs[j]=y at *;have Hvw:=kA1 hvw;clear hvw;go_wp2_with fail;refine (hr _ _ (Hvw.out.below ((kA3 _ _).alloc (kA2 _) _))).mono ?_;rintro e w3 ⟨b,rfl,hbge,hmap3,hb3⟩;have hbl:Below wr.heap.size wr w3:=((kA3 _ _).alloc (kA2 _) _).trans (hb3.mono kCV);have hB3:MapAt w3 (w.heap.size+1) (1+zAP (xs.take j)) (zCK f0 f2 0 D (xs.take j)):=hat.map.kept (row:=none) ⟨hbl.os,hbl.tape,hbl.output,hbl.size,fun k hk _=>hbl.block k hk⟩ kCV;have hBlt:=hat.map.lt;simp only[kAz] at hbge;have hsz:=hmap3.size_le;have hw3:=hat.below.trans (hbl.mono hat.below.size);have HW:=kA1 hw3;have hx3:=zA9 hbl HX.out;have HX3:=kA1 hx3;clear hr hat hbl hb3;have hbat:=HBA.out j;unfold ownDel at hm1;rw[hbat] at hm1;clear hbat
     cases hins:(bY&&decide (bf≤(j:Int)))
     ·rw[hins,kA9 kCV] at hm1;have hcp:=zDT (w.heap.size+1) b _ _ _ _ w3 hB3 hmap3 kCT kDb;have hsplit:bY=false∨(bY=true∧decide (bf≤(j:Int))=false):=by
       cases bY
       ·exact .inl rfl
       ·exact .inr ⟨rfl,by simpa using hins⟩
      clear hmap3 hB3 hins hx3;rcases hsplit with rfl | ⟨rfl,hdf⟩
      all_goals
       go_wp2_with fail;refine hcp.mono ?_;rintro e w4 ⟨rfl,hm4,hg4⟩;have hat4:FreeGt w f0 f2 D xs (w.heap.size+1) (j+1) w4:=by
        refine⟨?_,HW.out.grown hg4 HW.out.size (fun k e=>by injection e with e;omega)⟩;rw[hm1,hn1];exact hm4.mono kCT
       have HX4:=kA1 ((hg4.block _ (zA5 HX3.out) kCZ).trans HX3.out);clear hm4 hg4 hcp hw3;go_wp2;go_roundg (gk-1)
       case measure=>omega
       case rel=>exact⟨j+1,zCF hj hjl,by go_num,hat4,HX4⟩
     ·rw[hins,kAa rfl] at hm1;obtain⟨rfl,hdf⟩:bY=true∧decide (bf≤(j:Int))=true:=by simpa[kAj] using hins
      obtain⟨⟨g0,g1,g2,g3,g4,g5⟩,_,gl⟩:=zA6 hx3;have HB3:=kA1 hB3;have HM3:=kA1 hmap3;clear hins hx3 hmap3 hB3;go_wp2_with (at_delete;refine wpList_delete_own _ rfl _ _ 116 9 rfl 4 law9 Tryz.underlying116 (plainElem Tryz.prog 4) b _ _ rfl HM3.out _ _ rfl HK.out ?_;intro w5 hown5 hturn5);have hg5:=hturn5.grown;have hB5:=HB3.out.kept hg5 kCZ;have hx5:=(hg5.block _ (zA5 HX3.out) kCZ).trans HX3.out;have HX5:=kA1 hx5;have hw5:=HW.out.grown hg5 HW.out.size (fun k e=>by injection e with e;omega);have hs5:=hown5.size_le;have HW5:=kA1 hw5;have hcp:=zDT (w.heap.size+1) b _ _ _ _ w5 hB5 hown5 kCT kDb;clear hown5 hturn5 hg5 hB5 hx5 hw5 g0 g1 g2 g3 g4 g5;go_wp2_with fail;refine hcp.mono ?_;rintro e w4 ⟨rfl,hm4,hg4⟩;have hat4:FreeGt w f0 f2 D xs (w.heap.size+1) (j+1) w4:=by
       refine⟨?_,HW5.out.grown hg4 HW5.out.size (fun k e=>by injection e with e;omega)⟩;rw[hm1,hn1];exact hm4.mono kCT
      have HX4:=kA1 ((hg4.block _ (zA5 HX5.out) kCZ).trans HX5.out);clear hm4 hg4 hcp hw3;go_wp2;go_roundg (gk-1)
      case measure=>omega
      case rel=>exact⟨j+1,zCF hj hjl,by go_num,hat4,HX4⟩
    ·obtain rfl:j=xs.length:=kCT
     go_wp2;go_ret;have h1:=hat.map;rw[HT.out] at h1;exact⟨_,rfl,kCT,h1.mono kCT,hat.below⟩
end Go.Proofs.YtjaobihcdkjmbaaGreatDoor
end
