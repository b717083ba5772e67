/- The law ReadPlace answers true for every argument; a part of its proof. -/
import Derived.Test.YtjaobihcdkjmbaaGreatDoorCa
import Derived.Test.YtjaobihcdkjmbaaGreatDoorCb
import Derived.Test.YtjaobihcdkjmbaaGreatDoorC0
import Derived.Test.YtjaobihcdkjmbaaGreatDoorC7
import Derived.Test.YtjaobihcdkjmbaaGreatDoorC9
import Derived.Test.YtjaobihcdkjmbaaGreatDoorC12
import Derived.Test.YtjaobihcdkjmbaaGreatDoorC14
import Derived.Test.YtjaobihcdkjmbaaGreatDoorC17
set_option linter.unusedVariables false
set_option linter.unusedSimpArgs false
namespace Go.Proofs.YtjaobihcdkjmbaaGreatDoor.PReadTokens
end Go.Proofs.YtjaobihcdkjmbaaGreatDoor.PReadTokens
namespace Go.Proofs.YtjaobihcdkjmbaaGreatDoorW.PrintWords
end Go.Proofs.YtjaobihcdkjmbaaGreatDoorW.PrintWords
set_option maxRecDepth 100000
set_option maxHeartbeats 2000000
section
namespace Go.Proofs.YtjaobihcdkjmbaaGreatDoor
open Go.RowKit Go.Proofs.YtjaobihcdkjmbaaGreatDoorW.PrintWords Go.Proofs.YtjaobihcdkjmbaaGreatDoor.PReadTokens
theorem numS_ok {ts:List S47} {en:Nat} {lo hi v:Int} {now n:Nat} (h:numS ts en lo hi now=.ok (v,n)):n=now+1∧now<ts.length∧lo≤v∧v≤hi:=by
 unfold numS at h;split at h
 ·split at h
  ·rename_i hv h2;injection h with h;injection h with h3 h;subst h3;exact⟨h.symm,zBL h2.1 kD0,h2.2⟩
  ·cases h
 ·cases h
theorem zBZ (W0:World) (R B:Nat) (ts:List S47) (en now:Nat) (lo hi:Int) (w:World) (E:Env W0 R B ts) (h:St W0 R B ts en now w) :
  Calls Tryz.prog 179 #[.pointer (some ⟨R,0,none⟩),.int .i64 lo,.int .i64 hi] w (zDC w R ts en (numS ts en lo hi now)):=by
 cases hn:numS ts en lo hi now with
 | ok r =>
  obtain⟨v,n⟩:=r;obtain⟨rfl,hlt,_,_⟩:=numS_ok hn;unfold numS at hn;split at hn
  ·rename_i v' hv;split at hn
   ·rename_i h2;injection hn with hn;injection hn with hn _;subst hn;exact number_ok W0 R B ts en now lo hi v' w E h hlt (by rw[kAA];exact h2.1) hv h2.2.1 h2.2.2
   ·cases hn
  ·cases hn
 | error p =>
  have:p=(tokP ts en now).f2∧∀v,Lib.atoiAll (tokP ts en now).f1.data.toList=.ok v→¬((tokP ts en now).f0=2∧lo≤v∧v≤hi):=by
   unfold numS at hn;split at hn
   ·rename_i v' hv;split at hn
    ·cases hn
    ·rename_i h2;injection hn with hn;refine⟨hn.symm,fun v hv2=>?_⟩;rw[hv] at hv2;injection hv2 with hv2;subst hv2;exact h2
   ·rename_i hv;injection hn with hn;exact⟨hn.symm,fun v hv2=>absurd hv2 (hv v)⟩
  obtain⟨rfl,hno⟩:=this;exact number_no W0 R B ts en now lo hi w E h hno
theorem Gath.size {W0:World} {R B:Nat} {ts:List S47} {en:Nat} {w:World} {X:Nat} {wr:World} {x:S31} {n:Nat} {v:Value} (E:Env W0 R B ts) (hR:R<w.heap.size) (hX:w.heap.size<X)
  (G:Gath W0 R B ts en w X wr x n v) (k:Int):Gath W0 R B ts en w X (wr.setCell ⟨X,4,none⟩ (.int .i64 k)) ⟨x.f0,x.f1,x.f2,k,x.f4⟩ n v:=by
 have hXR:X≠R:=kCW
 have own:=E.own;have hlow:=G.st.low.size;have hk:=G.took.far G.blk hXR (kAN hX) 4 (.int .i64 k);obtain⟨v5,h1,h2⟩:=G.val.out;obtain rfl:=zCf h1;exact⟨⟨hk.rdr,G.st.low.setCell (p:=⟨X,4,none⟩) kDg _,by rw[kAM];exact G.st.base,G.st.pos⟩,hk,zAa G.blk 4 _,
  ⟨_,rfl,Kd.R_step h2 (fun j hj _=>kA7 _ _ _ _ hj.2)⟩,(kA7 _ _ _ _ kDg).trans G.res⟩
theorem power_walk (W0:World) (R B:Nat) (ts:List S47) (en:Nat) (chk:S28→Int) (ex:Nat→PR) (m now:Nat) (w:World) (E:Env W0 R B ts) (h:St W0 R B ts en now w) (hm:m≤now)
  (hp:Pars W0 R B ts en 217 (zCl ts en chk ex) m) :
  Calls Tryz.prog 180 #[.pointer (some ⟨R,0,none⟩)] w (zAi w R ts en now (zCz ts en chk ex now)):=by
 have hp0:=hp now (w.alloc zO) hm (h.below ((kA3 _ _).alloc (kA2 _) _));unfold zCz;have few:=E.few;have hRw:=h.rdr.lt;have hne0:=kAq hRw
 cases hc:zCl ts en chk ex now with
 | error p =>
  rw[hc] at hp0;unfold zAi zAk at hp0;clear hc hp h;go_enter Tryz.func180,Tryz.ntmps180;go_wp2_with fail;refine hp0.mono ?_;rintro e w1 ⟨rfl,hg⟩;go_wp2;exact⟨rfl,rfl,kA9 (kAE w zO _) hg⟩
 | ok r =>
  obtain⟨x,n⟩:=r;rw[hc] at hp0;unfold zAi at hp0;have H:=kA1 h;have h0:St W0 R B ts en now (w.alloc zO):=h.below ((kA3 _ _).alloc (kA2 _) _);clear hp h hc;dsimp only;have start:∀(w1:World) (v5:Value),Ex w1 (From (w.alloc zO).heap.size) x (exV x v5)→Took (w.alloc zO) R ts n en w1→n≤ts.length→w.heap.size<w1.heap.size ∧
    Gath W0 R B ts en w w1.heap.size (w1.alloc (.cells #[.int .i64 x.f0,.string x.f1.f0,.string x.f1.f1,.string x.f2,.int .i64 x.f3,v5] 31)) x n v5:=fun w1 v5 hx hk hn2=>by
   have hz:=hk.blk (zA4 w zO) hne0;have hXw:w.heap.size<w1.heap.size:=zA5 hz;exact⟨hXw,(h0.took E hk hn2).below ((kA3 _ _).alloc (kA2 _) _),hk.start.alloc _,zA4 _ _,(hx.old (fun k h1 h2=>⟨by simp[From] at h1;omega,kB1 h2⟩)).below ((kA3 _ _).alloc (kA2 _) _),
    (kA4 _ _ _ (zA5 hz)).trans hz⟩
  have Start:=kA1 start;clear start h0
  cases hs:sk ts en n ⟨#[94]⟩ with
  | false =>
   rw[kAa kD0];go_enter Tryz.func180,Tryz.ntmps180;go_wp2_with fail;refine hp0.mono ?_;rintro e w1 ⟨hn1,hn2,v,rfl,hx,hk⟩;obtain⟨v5,A5,n5,c5,rfl,rfl,_,_⟩:=hx.cells;obtain⟨hXw,G⟩:=Start.out w1 _ hx hk hn2;have hsk:=zB1 R ts n en ⟨#[94]⟩ _ G.st.rdr hn2 hs;unfold exV;go_wp2_with fail;refine hsk.mono ?_;rintro e w2 ⟨rfl,hk2⟩;have G2:=G.go E hRw hXw hk2 hn2;obtain⟨⟨p0,p1,p2,p3,p4,p5⟩,-,xl⟩:=zA9 G2.blk;obtain⟨⟨q0,q1,q2,q3,q4,q5⟩,⟨f0,f1,f2,f3,f4,f5⟩,xl2⟩:=zA9 G2.res;go_wp2;refine kAg (zAe Tryz.results180 _ _ w.heap.size 31 _ (0,0) _ rfl (fin6 _ _ _ _ _ _ G2.res) Tryz.underlying31 rfl zB6) rfl ⟨hn1,hn2,_,rfl,?_,?_⟩
   ·exact (G2.val.set6 (fun k hk=>kAq hk.1) _ _ _ _ _ _).mono (fun k hk=>kAN hk.1)
   ·exact G2.took.set6 G2.res hne0 (kA2 _) _ _ _ _ _ _
  | true =>
   rw[kAb rfl];have hlt:=zAw hs
   cases hs2:sk ts en (n+1) ⟨#[45]⟩ with
   | true =>
    rw[kAb rfl];have hlt1:=zAw hs2
    cases hnum:numS ts en 1 9 (n+1+1) with
    | error p =>
     dsimp only;go_enter Tryz.func180,Tryz.ntmps180;go_wp2_with fail;refine hp0.mono ?_;rintro e w1 ⟨hn1,hn2,v,rfl,hx,hk⟩;obtain⟨v5,A5,n5,c5,rfl,rfl,_,_⟩:=hx.cells;obtain⟨hXw,G⟩:=Start.out w1 _ hx hk hn2;have hsk:=zAF R ts n en ⟨#[94]⟩ _ G.st.rdr few hs;unfold exV;go_wp2_with fail;refine hsk.mono ?_;rintro e w2 ⟨rfl,hk2⟩;have G2:=G.go E hRw hXw hk2 hlt;obtain⟨⟨p0,p1,p2,p3,p4,p5⟩,⟨f0,f1,f2,f3,f4,f5⟩,xl⟩:=zA9 G2.blk;have hone:=G2.val.one ⟨kCW,kCW⟩ ⟨7,z28,⟨#[]⟩,0,[x]⟩ rfl;have G3:=(G2.below ((kA3 _ w2).alloc (kA2 _) (.cells #[.int .i64 x.f0,.string x.f1.f0,.string x.f1.f1,.string x.f2,.int .i64 x.f3,.slice A5 n5 c5] 31))).store E hRw hXw hone;have hsk3:=zAF R ts (n+1) en ⟨#[45]⟩ _ G3.st.rdr few hs2;simp only[set6,kB3,kAM,xl,z28] at G3 hsk3;clear p0 p1 p2 p3 p4 p5 f0 f1 f2 f3 f4 f5;obtain⟨⟨p0,p1,p2,p3,p4,p5⟩,⟨f0,f1,f2,f3,f4,f5⟩,-⟩:=zA9 G2.blk;go_wp2_with fail;refine hsk3.mono ?_;rintro e w3 ⟨rfl,hk3⟩;have G4:=G3.go E hRw hXw hk3 hlt1;have hnn:=zBZ W0 R B ts en (n+1+1) 1 9 w3 E G4.st;rw[hnum] at hnn;unfold zDC zAk at hnn;clear hsk3 hsk hone G3;go_wp2_with fail;refine hnn.mono ?_;rintro e w4 ⟨rfl,hg4⟩;go_wp2;exact⟨rfl,rfl,kA9 G4.took.grown hg4⟩
    | ok r =>
     obtain⟨k,n2⟩:=r;obtain⟨rfl,hlt2,hlo,hhi⟩:=numS_ok hnum;dsimp only;go_enter Tryz.func180,Tryz.ntmps180;go_wp2_with fail;refine hp0.mono ?_;rintro e w1 ⟨hn1,hn2,v,rfl,hx,hk⟩;obtain⟨v5,A5,n5,c5,rfl,rfl,_,_⟩:=hx.cells;obtain⟨hXw,G⟩:=Start.out w1 _ hx hk hn2;have hsk:=zAF R ts n en ⟨#[94]⟩ _ G.st.rdr few hs;unfold exV;go_wp2_with fail;refine hsk.mono ?_;rintro e w2 ⟨rfl,hk2⟩;have G2:=G.go E hRw hXw hk2 hlt;obtain⟨⟨p0,p1,p2,p3,p4,p5⟩,⟨f0,f1,f2,f3,f4,f5⟩,xl⟩:=zA9 G2.blk;have hone:=G2.val.one ⟨kCW,kCW⟩ ⟨7,z28,⟨#[]⟩,0,[x]⟩ rfl;have G3:=(G2.below ((kA3 _ w2).alloc (kA2 _) (.cells #[.int .i64 x.f0,.string x.f1.f0,.string x.f1.f1,.string x.f2,.int .i64 x.f3,.slice A5 n5 c5] 31))).store E hRw hXw hone;have hsk3:=zAF R ts (n+1) en ⟨#[45]⟩ _ G3.st.rdr few hs2;simp only[set6,kB3,kAM,xl,z28] at G3 hsk3;clear p0 p1 p2 p3 p4 p5 f0 f1 f2 f3 f4 f5;obtain⟨⟨p0,p1,p2,p3,p4,p5⟩,⟨f0,f1,f2,f3,f4,f5⟩,-⟩:=zA9 G2.blk;go_wp2_with fail;refine hsk3.mono ?_;rintro e w3 ⟨rfl,hk3⟩;have G4:=G3.go E hRw hXw hk3 hlt1;have hnn:=zBZ W0 R B ts en (n+1+1) 1 9 w3 E G4.st;rw[hnum] at hnn;unfold zDC at hnn;clear hsk3 hsk hone G3;go_wp2_with fail;refine hnn.mono ?_;rintro e w4 ⟨rfl,hk4⟩;have G5:=G4.go E hRw hXw hk4 hlt2;have G6:=G5.size E hRw hXw (-k);obtain⟨⟨q0,q1,q2,q3,q4,q5⟩,⟨y0,y1,y2,y3,y4,y5⟩,xl5⟩:=zA9 G5.blk;obtain⟨⟨s0,s1,s2,s3,s4,s5⟩,⟨t0,t1,t2,t3,t4,t5⟩,xl6⟩:=zA9 G6.res;obtain⟨⟨i0,i1,i2,i3,i4,i5⟩,-,xl7⟩:=zA9 G6.blk;go_wp2;refine kAg (zAe Tryz.results180 _ _ w.heap.size 31 _ (0,0) _ rfl (fin6 _ _ _ _ _ _ G6.res) Tryz.underlying31 rfl zB6) rfl ⟨kCW,hlt2,_,rfl,?_,?_⟩
     ·exact (G6.val.set6 (fun k hk=>kAq hk.1) _ _ _ _ _ _).mono (fun k hk=>kAN hk.1)
     ·exact G6.took.set6 G6.res hne0 (kA2 _) _ _ _ _ _ _
   | false =>
    rw[kAa kD0]
    cases hnum:numS ts en 0 9 (n+1) with
    | error p =>
     dsimp only;go_enter Tryz.func180,Tryz.ntmps180;go_wp2_with fail;refine hp0.mono ?_;rintro e w1 ⟨hn1,hn2,v,rfl,hx,hk⟩;obtain⟨v5,A5,n5,c5,rfl,rfl,_,_⟩:=hx.cells;obtain⟨hXw,G⟩:=Start.out w1 _ hx hk hn2;have hsk:=zAF R ts n en ⟨#[94]⟩ _ G.st.rdr few hs;unfold exV;go_wp2_with fail;refine hsk.mono ?_;rintro e w2 ⟨rfl,hk2⟩;have G2:=G.go E hRw hXw hk2 hlt;obtain⟨⟨p0,p1,p2,p3,p4,p5⟩,⟨f0,f1,f2,f3,f4,f5⟩,xl⟩:=zA9 G2.blk;have hone:=G2.val.one ⟨kCW,kCW⟩ ⟨7,z28,⟨#[]⟩,0,[x]⟩ rfl;have G3:=(G2.below ((kA3 _ w2).alloc (kA2 _) (.cells #[.int .i64 x.f0,.string x.f1.f0,.string x.f1.f1,.string x.f2,.int .i64 x.f3,.slice A5 n5 c5] 31))).store E hRw hXw hone;have hsk3:=zB1 R ts (n+1) en ⟨#[45]⟩ _ G3.st.rdr hlt hs2;simp only[set6,kB3,kAM,xl,z28] at G3 hsk3;clear p0 p1 p2 p3 p4 p5 f0 f1 f2 f3 f4 f5;obtain⟨⟨p0,p1,p2,p3,p4,p5⟩,⟨f0,f1,f2,f3,f4,f5⟩,-⟩:=zA9 G2.blk;go_wp2_with fail;refine hsk3.mono ?_;rintro e w3 ⟨rfl,hk3⟩;have G4:=G3.go E hRw hXw hk3 hlt;have hnn:=zBZ W0 R B ts en (n+1) 0 9 w3 E G4.st;rw[hnum] at hnn;unfold zDC zAk at hnn;clear hsk3 hsk hone G3;go_wp2_with fail;refine hnn.mono ?_;rintro e w4 ⟨rfl,hg4⟩;go_wp2;exact⟨rfl,rfl,kA9 G4.took.grown hg4⟩
    | ok r =>
     obtain⟨k,n2⟩:=r;obtain⟨rfl,hlt2,hlo,hhi⟩:=numS_ok hnum;dsimp only;go_enter Tryz.func180,Tryz.ntmps180;go_wp2_with fail;refine hp0.mono ?_;rintro e w1 ⟨hn1,hn2,v,rfl,hx,hk⟩;obtain⟨v5,A5,n5,c5,rfl,rfl,_,_⟩:=hx.cells;obtain⟨hXw,G⟩:=Start.out w1 _ hx hk hn2;have hsk:=zAF R ts n en ⟨#[94]⟩ _ G.st.rdr few hs;unfold exV;go_wp2_with fail;refine hsk.mono ?_;rintro e w2 ⟨rfl,hk2⟩;have G2:=G.go E hRw hXw hk2 hlt;obtain⟨⟨p0,p1,p2,p3,p4,p5⟩,⟨f0,f1,f2,f3,f4,f5⟩,xl⟩:=zA9 G2.blk;have hone:=G2.val.one ⟨kCW,kCW⟩ ⟨7,z28,⟨#[]⟩,0,[x]⟩ rfl;have G3:=(G2.below ((kA3 _ w2).alloc (kA2 _) (.cells #[.int .i64 x.f0,.string x.f1.f0,.string x.f1.f1,.string x.f2,.int .i64 x.f3,.slice A5 n5 c5] 31))).store E hRw hXw hone;have hsk3:=zB1 R ts (n+1) en ⟨#[45]⟩ _ G3.st.rdr hlt hs2;simp only[set6,kB3,kAM,xl,z28] at G3 hsk3;clear p0 p1 p2 p3 p4 p5 f0 f1 f2 f3 f4 f5;obtain⟨⟨p0,p1,p2,p3,p4,p5⟩,⟨f0,f1,f2,f3,f4,f5⟩,-⟩:=zA9 G2.blk;go_wp2_with fail;refine hsk3.mono ?_;rintro e w3 ⟨rfl,hk3⟩;have G4:=G3.go E hRw hXw hk3 hlt;have hnn:=zBZ W0 R B ts en (n+1) 0 9 w3 E G4.st;rw[hnum] at hnn;unfold zDC at hnn;clear hsk3 hsk hone G3;go_wp2_with fail;refine hnn.mono ?_;rintro e w4 ⟨rfl,hk4⟩;have G5:=G4.go E hRw hXw hk4 hlt2;have G6:=G5.size E hRw hXw k;obtain⟨⟨q0,q1,q2,q3,q4,q5⟩,⟨y0,y1,y2,y3,y4,y5⟩,xl5⟩:=zA9 G5.blk;obtain⟨⟨s0,s1,s2,s3,s4,s5⟩,⟨t0,t1,t2,t3,t4,t5⟩,xl6⟩:=zA9 G6.res;obtain⟨⟨i0,i1,i2,i3,i4,i5⟩,-,xl7⟩:=zA9 G6.blk;go_wp2;refine kAg (zAe Tryz.results180 _ _ w.heap.size 31 _ (0,0) _ rfl (fin6 _ _ _ _ _ _ G6.res) Tryz.underlying31 rfl zB6) rfl ⟨kCW,hlt2,_,rfl,?_,?_⟩
     ·exact (G6.val.set6 (fun k hk=>kAq hk.1) _ _ _ _ _ _).mono (fun k hk=>kAN hk.1)
     ·exact G6.took.set6 G6.res hne0 (kA2 _) _ _ _ _ _ _
def zCv:Nat→ByteArray→List ByteArray
 | 0,_=>[]
 | k+1,t=>if t.size=0 then [] else t.extract (t.size-9) t.size :: zCv k (t.extract 0 (t.size-9))
def zBg (s:ByteArray):List ByteArray:=zCv (s.size+1) s
theorem chunkF_length (k:Nat):∀t,(zCv k t).length≤k:=by
 induction k with
 | zero=>intro t;exact kA2 _
 | succ k ih =>
  intro t;rw[zCv];split
  ·simp
  ·rw[List.length_cons];have:=ih (t.extract 0 (t.size-9));omega
theorem chunksN_in (n l:Nat) (box:Addr) (s:ByteArray) (hs:s.size≤2147483648) (W:World) (J:List ByteArray→World→Prop) (hbox:W.cell? box=some (.string s))
  (hJ:∀pre A u,J pre A→J pre (A.setCell box (.string u)))
  (hY:∀pre t A,J pre A→(∃rest,zBg s=pre++t :: rest)→YieldAt Fence.wide (n-1) Tryz.prog l #[.string t] A fun e B=>e=.returned (.bool true)∧J (pre++[t]) B∧B.cell? box=A.cell? box∧B.frozen? box=false)
  (h0:J [] W) :
  CallsIn Fence.wide n Tryz.prog 257 #[.func (.yield l) #[] #[],.pointer (some box)] W fun e W'=>e=.returned (.tuple #[])∧J (zBg s) W':=by
 have hD:Fence.wide.depth.isSome=false:=rfl;have HJ:=kA1 hJ;have HY:=kA1 hY;have H0:=kA1 h0;clear hJ hY h0;refine kCA Tryz.func257 rfl trivial ?_ rfl;simp only[Tryz.ntmps257,kAf,List.length_cons,List.length_nil,Nat.reduceAdd,Nat.reduceSub,kAV,Array.replicate_zero,kBh,kAP,List.nil_append,List.cons_append]
 gi_wp2
 gi_loopg [] (s.size+1) (fun k wr=>∃pre t,t.size<k∧t.size≤2147483648∧wr.cell? box=some (.string t)∧Hid (J pre wr)∧Hid (zBg s=pre++zCv k t))
 case atStart=>exact⟨[],s,kCW,hs,hbox,H0,kA1 rfl⟩
 case round =>
  clear hbox H0;obtain⟨pre,t,htk,hts,hbx,HJ1,HC⟩:=hrel
  cases gk with
  | zero=>omega
  | succ m =>
   by_cases h0:0<t.size
   ·have hpos:decide (0<(t.size:Int))=true:=kA5 kCW;have hpos2:decide (0<t.size)=true:=kA5 h0;have Hun:Hid (zCv (m+1) t=t.extract (t.size-9) t.size :: zCv m (t.extract 0 (t.size-9))):=kA1 (by rw[zCv,kAa kCW]);obtain⟨a,ha⟩:∃a,a=t.size-9:=⟨_,rfl⟩;have hmax:max 0 ((t.size:Int)-9)=(a:Int):=kCW
    have hal:a≤t.size:=kCW
    have ham:a<m:=kCW
    rw[← ha] at Hun;have Hfull:Hid (zBg s=pre++t.extract a t.size :: zCv m (t.extract 0 a)):=kA1 (by rw[HC.out,Hun.out]);replace ha:=kA1 ha;clear h0;obtain⟨fn,tmps,assign,body,hy,hR⟩:=HY.out pre (t.extract a t.size) wr HJ1.out ⟨_,Hfull.out⟩
    gi_wp2
    refine hR.mono ?_;rintro e B ⟨rfl,hJ2,hb,hf⟩;rw[hbx] at hb;have HJ2:=kA1 hJ2;clear hR hy hbx hJ2
    gi_wp2
    gi_roundg m
    case measure=>omega
    case rel=>exact⟨pre++[t.extract a t.size],t.extract 0 a,kCZ,kCZ,World.cell?_setCell_same _ _ _ hb,kA1 (HJ.out _ _ _ HJ2.out),kA1 (by rw[Hfull.out,kCm];rfl)⟩
   ·have hpos:decide (0<(t.size:Int))=false:=kA6 kCW;have hpos2:decide (0<t.size)=false:=kA6 h0;have Hfull:Hid (zBg s=pre):=kA1 (by rw[HC.out,zCv,kAb kCW,kBV]);clear h0
    gi_wp2
    refine kBc (kAX rfl _ _ _) rfl ⟨rfl,?_⟩;rw[Hfull.out];exact HJ1.out
theorem zDd {n:Nat} {g:Operand} {p:Tmp} {assign body:Code} {Q:Exit→Act→World→Prop} {a:Act} {w:World} {bb:Nat} {s:ByteArray} (tm:ByteArray→Array Value)
  (hg:a.eval g=.func (.func 257) #[] #[.pointer (some ⟨bb,0,none⟩)]) (hs:s.size≤2147483648) (hbox:w.heap[bb]?=some (.cells #[.string s] 9 (0,0)))
  (I:List ByteArray→World→Prop) (hI:∀pre A B k,I pre A→(k=w.heap.size+1∨k=bb)→A.grownBy B (some k)→I pre B) (h0:I [] w)
  (hI1:∀A B,I [] A→A.grownBy B none→I [] B)
  (hassign:∀(l:Nat) (t:ByteArray) (A:World) (K:Act→World→Prop),K { tmps:=tm t,defers:=[] } A →
   assign.wpIn (Fence.wide.inRound l) (n-1-1) Tryz.prog (Exit.then K (fun _ _ _=>False)) { tmps:=a.tmps.setIfInBounds p (.string t),defers:=[] } A)
  (hbody:∀(pre:List ByteArray) (t:ByteArray) (A W0:World),I pre A→(∃rest,zBg s=pre++t :: rest)→w.heap.size+2≤A.heap.size→A.grownBy W0 (some (w.heap.size+1))→W0.heap.size=A.heap.size →
   body.wpIn (Fence.wide.inRound (w.heap.size+1)) (n-1-1) Tryz.prog (chunkPost bb (I (pre++[t])) W0) { tmps:=tm t,defers:=[] } W0)
  (hdone:∀(W:World),I (zBg s) W→W.heap[w.heap.size]?=some (.deferred (some []))→Q .normal { a with defers:={ target:=.collected w.heap.size,args:=#[] } :: a.defers } W) :
  (Code.rangeFunc g #[p] assign body).wpIn Fence.wide n Tryz.prog Q a w:=by
 refine wpIn_rangeFunc ?_;intro fn _;obtain⟨rec,hrec⟩:∃rec:LoopState→Option Code→Loop,rec=fun st pe=>{ state:=st,pending:=pe,fn,tmps:=a.tmps,params:=#[p],assign,body,defers:=w.heap.size }:=⟨_,rfl⟩
 obtain⟨W1,hW1⟩:∃W1,(w.alloc (.deferred (some []))).alloc (.loop (rec .ready none))=W1:=⟨_,rfl⟩;have hsz1:W1.heap.size=w.heap.size+2:=by rw[← hW1];simp
 have hL1:W1.heap[w.heap.size+1]?=some (.loop (rec .ready none)):=by
  rw[← hW1];have:=kBP (w.alloc (.deferred (some []))) (.loop (rec .ready none));rwa [kAC] at this
 have hK1:W1.heap[w.heap.size]?=some (.deferred (some [])):=by
  rw[← hW1];exact (kA4 _ _ _ kCY).trans (kBP w _)
 have hbl:=zA5 hbox;have hg1:w.grownBy W1 none:=by rw[← hW1];exact zCr _ _ _ _
 have hb1:W1.heap[bb]?=some (.cells #[.string s] 9 (0,0)):=(hg1.block _ hbl kCY).trans hbox;refine⟨w.heap.size+1,[{ target:=.collected w.heap.size,args:=#[] }],W1,{ target:=.fn (.func 257) #[.pointer (some ⟨bb,0,none⟩)],args:=#[.func (.yield (w.heap.size+1)) #[] #[]] },W1,257,
  #[.func (.yield (w.heap.size+1)) #[] #[],.pointer (some ⟨bb,0,none⟩)],W1,?_,?_,?_,?_,zET,?_⟩
 ·rw[← hW1,hrec];exact run_enterLoop_outer _ _ _ _ _
 ·simp only[resolve,hg];simp[go_sem]
 ·intro f' _;trivial
 ·simp only[invoke];simp[go_sem]
 ·refine (chunksN_in (n-1) (w.heap.size+1) ⟨bb,0,none⟩ s hs W1
   (fun pre W=>I pre W∧W.heap[w.heap.size+1]?=some (.loop (rec .ready none))∧W.heap[w.heap.size]?=some (.deferred (some []))∧∃u,W.heap[bb]?=some (.cells #[.string u] 9 (0,0))) (zA1 hb1 0) ?_ ?_ ⟨hI1 _ _ h0 hg1,hL1,hK1,s,hb1⟩).mono ?_
  ·rintro pre A u⟨hi,hl,hk,u0,hu⟩;exact⟨hI _ _ _ _ hi (.inr rfl) (kAh _ _ _ _),(kA7 _ _ _ _ kCZ).trans hl,(kA7 _ _ _ _ kCZ).trans hk,u,zAa hu 0 _⟩
  ·rintro pre t A⟨hi,hl,hk,u,hu⟩ hrest;have hlA:=zA5 hl;have hy:=run_yield (P:=Tryz.prog) (args:=#[.string t]) hl (by rw[hrec];rfl);rw[hrec] at hy;refine⟨fn,_,assign,body,hy,roundIn_of_wpIn trivial ?_⟩;have hzip:(#[p].zip #[Value.string t]).foldl (fun tmps (x:Tmp×Value)=>tmps.setIfInBounds x.1 x.2) a.tmps=a.tmps.setIfInBounds p (.string t):=kCY
   show assign.wpIn _ _ _ _ { tmps:=(#[p].zip #[Value.string t]).foldl (fun tmps (x:Tmp×Value)=>tmps.setIfInBounds x.1 x.2) a.tmps,defers:=[] } _;rw[hzip];refine hassign _ t _ _ ?_;refine⟨_,run_beginRound hl (by rw[hrec]),?_⟩;obtain⟨W0,hW0⟩:∃W0,W0=A.putObj (w.heap.size+1) (.loop { rec .ready none with state:=.busy }):=⟨_,rfl⟩;show Code.wpIn _ _ _ body _ _ (A.putObj (w.heap.size+1) (.loop { rec .ready none with state:=.busy }));rw[← hW0];have hgr0:A.grownBy W0 (some (w.heap.size+1)):=by rw[hW0];exact zAy _ _ _
   have hz0:W0.heap.size=A.heap.size:=by rw[hW0];simp
   have hl2:W0.heap[w.heap.size+1]?=some (.loop { rec .ready none with state:=.busy }):=by rw[hW0];exact kBf hlA
   have hk2:W0.heap[w.heap.size]?=some (.deferred (some [])):=(hgr0.block _ kCW kD2).trans hk;have hb2:W0.heap[bb]?=some (.cells #[.string u] 9 (0,0)):=(hgr0.block _ kCW kD2).trans hu;refine wpIn_mono (hbody pre t A W0 hi hrest kCW hgr0 hz0) ?_;rintro e a3 W3 hp
   cases e with
   | normal =>
    obtain⟨hk3,hi3,hbb⟩:=hp;have hl3:=hk3.same _ _ hl2 rfl;have hd3:=hk3.same _ _ hk2 rfl;have hr:=run_endRound (P:=Tryz.prog) none hl3;rw[hrec] at hr hl3;have hb3:(W3.putObj (w.heap.size+1) (.loop (rec .ready none))).heap[bb]?=some (.cells #[.string u] 9 (0,0)):=(kAp kCW).trans (hbb.trans hb2);rw[hrec] at hb3;have hbA:=zA1 hu 0;refine⟨_,_,hr,rfl,⟨hI _ _ _ _ hi3 (.inl rfl) (zAy _ _ _),?_,(kAp kCW).trans hd3,u,hb3⟩,(zA1 hb3 0).trans hbA.symm,zA2 hb3 0⟩;rw[hrec];exact kBf (zA5 hl3)
   | ret=>exact hp.elim
   | exit id=>exact hp.elim
   | goto t=>exact hp.elim
   | panic ch=>exact hp.elim
   | outgrown=>exact hp.elim
  ·rintro e W2⟨rfl,hi,hl,hk,_⟩;have he:=run_endLoop (P:=Tryz.prog) hl kDu;rw[hrec] at he;exact⟨none,_,he,hdone _ (hI _ _ _ _ hi (.inl rfl) (zAy _ _ _)) ((kAp kCW).trans hk)⟩
end Go.Proofs.YtjaobihcdkjmbaaGreatDoor
end
