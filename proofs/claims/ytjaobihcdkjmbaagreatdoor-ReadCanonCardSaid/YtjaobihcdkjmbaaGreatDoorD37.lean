/- What can be read as an expression is printed as a text that reads as the same, and is printed as itself: for every argument; a part of its proof. -/
import Derived.Test.YtjaobihcdkjmbaaGreatDoorDa
import Derived.Test.YtjaobihcdkjmbaaGreatDoorDb
import Derived.Test.YtjaobihcdkjmbaaGreatDoorD0
import Derived.Test.YtjaobihcdkjmbaaGreatDoorD7
import Derived.Test.YtjaobihcdkjmbaaGreatDoorD10
import Derived.Test.YtjaobihcdkjmbaaGreatDoorD11
import Derived.Test.YtjaobihcdkjmbaaGreatDoorD12
import Derived.Test.YtjaobihcdkjmbaaGreatDoorD13
import Derived.Test.YtjaobihcdkjmbaaGreatDoorD16
import Derived.Test.YtjaobihcdkjmbaaGreatDoorD17
import Derived.Test.YtjaobihcdkjmbaaGreatDoorD19
import Derived.Test.YtjaobihcdkjmbaaGreatDoorD20
import Derived.Test.YtjaobihcdkjmbaaGreatDoorD21
import Derived.Test.YtjaobihcdkjmbaaGreatDoorD23
import Derived.Test.YtjaobihcdkjmbaaGreatDoorD25
import Derived.Test.YtjaobihcdkjmbaaGreatDoorD26
import Derived.Test.YtjaobihcdkjmbaaGreatDoorD29
import Derived.Test.YtjaobihcdkjmbaaGreatDoorD32
import Derived.Test.YtjaobihcdkjmbaaGreatDoorD33
import Derived.Test.YtjaobihcdkjmbaaGreatDoorD34
import Derived.Test.YtjaobihcdkjmbaaGreatDoorD35
set_option linter.unusedVariables false
set_option linter.unusedSimpArgs false
namespace Go.Proofs.YtjaobihcdkjmbaaGreatDoor.PReadTokens
end Go.Proofs.YtjaobihcdkjmbaaGreatDoor.PReadTokens
namespace Go.Proofs.YtjaobihcdkjmbaaGreatDoorW.PrintWords
end Go.Proofs.YtjaobihcdkjmbaaGreatDoorW.PrintWords
set_option maxRecDepth 100000
set_option maxHeartbeats 4000000
section
namespace Go.Proofs.YtjaobihcdkjmbaaGreatDoor
open Go.RowKit Go.Proofs.YtjaobihcdkjmbaaGreatDoorW.PrintWords Go.Proofs.YtjaobihcdkjmbaaGreatDoor.PReadTokens
theorem element_walk (W0:World) (R B:Nat) (ts:List S47) (en:Nat) (chk:S28→Int) (ex:Nat→PR) (m now:Nat) (w:World) (E:Env W0 R B ts) (h:St W0 R B ts en now w) (hm:m≤now)
  (hp:Pars W0 R B ts en 252 (atomS ts en chk ex) m) (hex:Pars W0 R B ts en 134 ex (m+1)) :
  Calls Tryz.prog 217 #[.pointer (some ⟨R,0,none⟩)] w (zAk w R ts en now (zCF ts en chk ex now)):=by
 have hp0:=hp now (w.alloc zO) hm (h.below ((kA3 _ _).alloc (kA2 _) _));unfold zCF;have HX:=kA1 hex;clear hex;have few:=E.few;have hRw:=h.rdr.lt;have hne0:=kAs hRw
 cases hc:atomS ts en chk ex now with
 | error p =>
  rw[hc] at hp0;unfold zAk zAm at hp0;clear hc hp h;go_enter Tryz.func217,Tryz.ntmps217;go_wp2_with fail;refine hp0.mono ?_;rintro e w1 ⟨rfl,hg⟩;go_wp2;exact⟨rfl,rfl,kA7 (kAE w zO _) hg⟩
 | ok r =>
  obtain⟨x,n⟩:=r;show Calls _ _ _ _ (zAk w R ts en now (zBZ ts en ex (ts.length+1) x n));generalize hresL:zBZ ts en ex (ts.length+1) x n=res;have HresL:=kA1 hresL;clear hresL;rw[hc] at hp0;unfold zAk at hp0;have HP:=kA1 hp;have H:=kA1 h;have h0:St W0 R B ts en now (w.alloc zO):=h.below ((kA3 _ _).alloc (kA2 _) _);clear hp h hc;go_enter Tryz.func217,Tryz.ntmps217;go_wp2_with fail;refine hp0.mono ?_;rintro e w1 ⟨hn1,hn2,v,rfl,hx,hk⟩;obtain⟨v5,A5,n5,c5,rfl,rfl,_,_⟩:=hx.cells;unfold exV;go_wp2;have g1:Gath W0 R B ts en w w1.heap.size (w1.alloc (.cells #[.int .i64 x.f0,.string x.f1.f0,.string x.f1.f1,.string x.f2,.int .i64 x.f3,.slice A5 n5 c5] 31)) x n (.slice A5 n5 c5) :=
   ⟨((h0.took E hk hn2).below ((kA3 _ _).alloc (kA2 _) _)),hk.start.alloc _,zA4 _ _,(hx.old (fun k h1 h2=>⟨by simp[From] at h1;omega,kB8 h2⟩)).below ((kA3 _ _).alloc (kA2 _) _),
    (kA4 _ _ _ (zA5 (hk.blk (zA4 w zO) hne0))).trans (hk.blk (zA4 w zO) hne0)⟩
  have hXR:w1.heap.size≠R:=kAs hk.rdr.lt;have hXw:w.heap.size<w1.heap.size:=zA5 (hk.blk (zA4 w zO) hne0);generalize w1.heap.size=X at *;generalize hW:w1.alloc _=W at *;clear hW hk hx hp0 h0;have hres:=HresL.out;go_loopg [] (ts.length+1) (fun k wr=>∃x n v5,m<n∧now<n∧n≤ts.length∧ts.length<n+k∧Gath W0 R B ts en w X wr x n v5∧Hid (zBZ ts en ex k x n=res))
  case atStart=>exact⟨x,n,_,kD4,hn1,hn2,kD4,g1,hres⟩
  case round =>
   clear g1 hres hn1 hn2;obtain⟨x,n,v5,hmn,hnn,hnl,hfuel,G,Hres⟩:=hrel;obtain⟨_,A5,n5,c5,h5,rfl,_,_⟩:=G.val.cells;obtain rfl:=zCu h5
   cases gk with
   | zero=>omega
   | succ gk =>
   cases h1:sk ts en n ⟨#[91]⟩ with
   | false =>
    have Hres':Hid (res=.ok (x,n)):=by
     have:=Hres.out;unfold zBZ at this;rw[kA9 kDj] at this;exact kA1 this.symm
    have hs:=zAT R ts n en ⟨#[91]⟩ wr G.st.rdr hnl h1;go_wp2_with fail;refine hs.mono ?_;rintro e w1 ⟨rfl,hk1⟩;have G1:=G.go E hRw hXw hk1 hnl;obtain⟨⟨p0,p1,p2,p3,p4,p5⟩,-,xl⟩:=zA6 G1.blk;obtain⟨⟨q0,q1,q2,q3,q4,q5⟩,⟨f0,f1,f2,f3,f4,f5⟩,xl2⟩:=zA6 G1.res;go_wp2;rw[Hres'.out];refine kAi (zAg Tryz.results217 _ _ w.heap.size 31 _ (0,0) _ rfl (fin6 _ _ _ _ _ _ G1.res) Tryz.underlying31 rfl zB6) rfl ⟨hnn,hnl,_,rfl,?_,?_⟩
    ·exact (G1.val.set6 (fun k hk=>kAs hk.1) _ _ _ _ _ _).mono (fun k hk=>kAP hk.1)
    ·exact G1.took.set6 G1.res hne0 (kA2 _) _ _ _ _ _ _
   | true =>
    have hs:=zAE R ts n en ⟨#[91]⟩ wr G.st.rdr few h1;have hlt:=zAv h1
    cases hc:ex (n+1) with
    | error p =>
     have Hres':Hid (res=.error p):=by
      have:=Hres.out;unfold zBZ at this;rw[kAa h1,hc] at this;exact kA1 this.symm
     go_wp2_with fail;refine hs.mono ?_;rintro e w1 ⟨rfl,hk1⟩;have G1:=G.go E hRw hXw hk1 hlt;obtain⟨⟨p0,p1,p2,p3,p4,p5⟩,-,xl⟩:=zA6 G1.blk;have G1d:=G1.below ((kA3 _ w1).drew);have hp1:=HX.out (n+1) _ kD4 G1d.st;rw[hc] at hp1;unfold zAk zAm at hp1;clear hc;obtain⟨-,-,hR3,-,hRl⟩:=G1.st.rdr.cells;go_wp2_with fail;refine kB7 (S:=(fun w'=>w'.cell? ⟨R,3,none⟩=some (.func (.func 134) #[] #[])∧w'.cell? ⟨X,0,none⟩=some (Value.int IntKind.i64 x.f0)∧w'.cell? ⟨X,1,none⟩=some (Value.string x.f1.f0)∧w'.cell? ⟨X,2,none⟩=some (Value.string x.f1.f1)∧w'.cell? ⟨X,3,none⟩=some (Value.string x.f2)∧w'.cell? ⟨X,4,none⟩=some (Value.int IntKind.i64 x.f3)∧w'.cell? ⟨X,5,none⟩=some (.slice A5 n5 c5))) kD5 ⟨hR3,(zA6 G1d.blk).1⟩ (fun hHeld=>?_);refine kAx (i:=1) (v:=?v1c1) rfl kD5 kD5 kD5 (fun _ _ _ h=>h) (Or.inl ⟨kD9,?hy1c1⟩) kDb ?rest1c1
     case hy1c1=>(intro w hSw;(try dsimp only at hSw);go_simp;try (with_reducible rfl))
     try simp only[Act.put,kA0,List.set_cons_zero,List.set_cons_succ]
     refine kAx (i:=0) (v:=?v0c2) rfl kD5 kD5 kD5 (fun _ _ _ h=>h) (Or.inl ⟨kD9,?hy0c2⟩) kDb ?rest0c2
     case hy0c2=>(intro w hSw;(try dsimp only at hSw);go_simp;try (with_reducible rfl))
     try simp only[Act.put,kA0,List.set_cons_zero,List.set_cons_succ]
     refine kAx (i:=2) (v:=?v2c3) rfl kD5 kD5 kD5 (fun _ _ _ h=>h) (Or.inl ⟨kD9,?hy2c3⟩) kDb ?rest2c3
     case hy2c3=>(intro w hSw;(try dsimp only at hSw);go_simp;try (with_reducible rfl))
     try simp only[Act.put,kA0,List.set_cons_zero,List.set_cons_succ]
     refine kAx (i:=3) (v:=?v3c4) rfl kD5 kD5 kD5 (fun _ _ _ h=>h) (Or.inl ⟨kD9,?hy3c4⟩) kDb ?rest3c4
     case hy3c4=>(intro w hSw;(try dsimp only at hSw);go_simp;try (with_reducible rfl))
     try simp only[Act.put,kA0,List.set_cons_zero,List.set_cons_succ]
     refine kAx (i:=4) (v:=?v4c5) rfl kD5 kD5 kD5 (fun _ _ _ h=>h) (Or.inl ⟨kD9,?hy4c5⟩) kDb ?rest4c5
     case hy4c5=>(intro w hSw;(try dsimp only at hSw);go_simp;try (with_reducible rfl))
     try simp only[Act.put,kA0,List.set_cons_zero,List.set_cons_succ]
     refine kAx (i:=5) (v:=?v5c6) rfl kD5 kD5 kD5 (fun _ _ _ h=>h) (Or.inl ⟨kD9,?hy5c6⟩) kDb ?rest5c6
     case hy5c6=>(intro w hSw;(try dsimp only at hSw);go_simp;try (with_reducible rfl))
     try simp only[Act.put,kA0,List.set_cons_zero,List.set_cons_succ]
     refine kBO (rs:=[6]) kD5 kD6 ?_;refine kBF rfl (fun K hK=>?_) kBJ;go_simp;go_wp2_with (go_at_call 134;refine hp1.mono ?_;rintro e w2 ⟨rfl,hg2⟩);rw[Hres'.out];exact⟨rfl,rfl,kA7 G1d.took.grown hg2⟩
    | ok r =>
     obtain⟨y,n2⟩:=r
     cases h2:sk ts en n2 ⟨#[93]⟩ with
     | true =>
      have hlt2:=zAv h2;have Hres':Hid (zBZ ts en ex gk (twoX 9 x y) (n2+1)=res):=by
       have:=Hres.out;unfold zBZ at this;rw[kAa h1,hc] at this;simp only[h2,kCO] at this;exact kA1 this
      go_wp2_with fail;refine hs.mono ?_;rintro e w1 ⟨rfl,hk1⟩;have G1:=G.go E hRw hXw hk1 hlt;obtain⟨⟨p0,p1,p2,p3,p4,p5⟩,-,xl⟩:=zA6 G1.blk;have G1d:=G1.below ((kA3 _ w1).drew);have hp1:=HX.out (n+1) _ kD4 G1d.st;rw[hc] at hp1;unfold zAk at hp1;clear hc;obtain⟨-,-,hR3,-,hRl⟩:=G1.st.rdr.cells;go_wp2_with fail
      go_region_with ((first
       | (go_at_call 134;refine hp1.mono ?_;rintro e w2 ⟨hn1,hn2,vy,rfl,hy,hk2⟩;have G2:=G1d.go E hRw hXw hk2 hn2;have hw:=G1d.two 9 E hRw hXw hy hk2 hn2;obtain⟨⟨q0,q1,q2,q3,q4,q5⟩,-,lt2⟩:=zA6 G2.blk)
       | (go_at_call 161;refine hw.mono ?_;rintro e w3 ⟨u,A,N,C,rfl,rfl,G3,hu⟩;obtain⟨⟨r0,r1,r2,r3,r4,r5⟩,⟨f0,f1,f2,f3,f4,f5⟩,lt3⟩:=zA6 G3.blk;simp only[exV,twoX])))
      all_goals
       have G4:=G3.store E hRw hXw hu;have ht:=zBW R ts n2 en ⟨#[93]⟩ _ G4.st.rdr few h2;simp only[set6,twoX] at G4 ht;go_wp2_with fail;refine ht.mono ?_;rintro e w5 ⟨rfl,hk5⟩;have G5:=G4.go E hRw hXw hk5 hlt2;go_wp2;go_roundg gk
       case measure=>omega
       case rel=>exact⟨_,n2+1,_,kD4,kD4,hlt2,kD4,G5,Hres'⟩
     | false =>
      have Hres':Hid (res=.error (atP ts en n2)):=by
       have:=Hres.out;unfold zBZ at this;rw[kAa h1,hc] at this;simp only[h2] at this;exact kA1 this.symm
      go_wp2_with fail;refine hs.mono ?_;rintro e w1 ⟨rfl,hk1⟩;have G1:=G.go E hRw hXw hk1 hlt;obtain⟨⟨p0,p1,p2,p3,p4,p5⟩,-,xl⟩:=zA6 G1.blk;have G1d:=G1.below ((kA3 _ w1).drew);have hp1:=HX.out (n+1) _ kD4 G1d.st;rw[hc] at hp1;unfold zAk at hp1;clear hc;obtain⟨-,-,hR3,-,hRl⟩:=G1.st.rdr.cells;go_wp2_with fail
      go_region_with ((first
       | (go_at_call 134;refine hp1.mono ?_;rintro e w2 ⟨hn1,hn2,vy,rfl,hy,hk2⟩;have G2:=G1d.go E hRw hXw hk2 hn2;have hw:=G1d.two 9 E hRw hXw hy hk2 hn2;obtain⟨⟨q0,q1,q2,q3,q4,q5⟩,-,lt2⟩:=zA6 G2.blk)
       | (go_at_call 161;refine hw.mono ?_;rintro e w3 ⟨u,A,N,C,rfl,rfl,G3,hu⟩;obtain⟨⟨r0,r1,r2,r3,r4,r5⟩,⟨f0,f1,f2,f3,f4,f5⟩,lt3⟩:=zA6 G3.blk;simp only[exV,twoX])))
      all_goals
       have G4:=G3.store E hRw hXw hu;have ht:=zCt R ts n2 en ⟨#[93]⟩ _ G4.st.rdr hn2 h2;unfold zAm at ht;simp only[set6,twoX] at G4 ht;go_wp2_with fail;refine ht.mono ?_;rintro e w5 ⟨rfl,hb5⟩;go_wp2;rw[Hres'.out];exact⟨rfl,rfl,kAk G4.took.grown hb5⟩
theorem field100_1 (a b:Int) (w:World):(Instr.field 100 (.agg #[.int .i64 a,.int .i64 b]) 1).run Tryz.prog w=.ok (.int .i64 b) w:=kD5
def zDx (chk:S28→Int) (s:ByteArray):S31×Int×Int :=
 if 0≤zCx chk s then (z31,zCx chk s,1)
 else match zCS chk s with
  | .ok (x,_)=>if 30<zAI x then (z31,0,7) else (x,0,0)
  | .error _=>(z31,0,0)
def zE3 (chk:S28→Int) (s:ByteArray) (w:World) (e:Ending) (w':World):Prop :=
 ∃v5,e=.returned (.tuple #[exV (zDx chk s).1 v5,.int .i64 (zDx chk s).2.1,.int .i64 (zDx chk s).2.2])∧Ex w' (From w.heap.size) (zDx chk s).1 (exV (zDx chk s).1 v5)∧Below w.heap.size w w'
section
section
variable {st:Nat→Tk} {chk:S28→Int} {L N:Nat}
theorem own_lit (num:S28) (name:ByteArray) (hc:chk num=0) (hL:N<L):Own st chk L N ⟨0,num,name,0,[]⟩:=by
 refine .of4 kD9 fun K n _ hs ha=>?_
 rw[show zAo ⟨0,num,name,0,[]⟩=litTk num name from rfl] at hs ha ⊢;refine⟨L,kD4,zEP ?_⟩;have h1:st n=(2,num.f0):=hs.1;unfold zFn;rw[kAa (by rw[h1]),h1];exact lit_reads hc hs ha
theorem own_ref (name:ByteArray) (hL:N<L):Own st chk L N ⟨1,z28,name,0,[]⟩:=by
 refine .of4 kD9 fun K n _ hs ha=>?_
 rw[show zAo ⟨1,z28,name,0,[]⟩=[(0,name)] from rfl] at hs ha ⊢;refine⟨L,kD4,zEP ?_⟩;have h1:st n=(0,name):=hs.1;unfold zFn nameI;have hp:skT (st (n+1)) ⟨#[40]⟩=false:=ha.par;rw[kA9 (by rw[h1];simp),kAa (by rw[h1]),kA9 (by rw[zBa,hp];decide),h1];rfl
theorem own_neg (a:S31) (h:∀K n,N<n+1+K→Read4 st chk L N (zAW st chk L K) a n) (hL:N<L):Own st chk L N ⟨2,z28,⟨#[]⟩,0,[a]⟩:=by
 refine .of1 kD9 fun K n hn hs ha=>?_
 rw[show zAo ⟨2,z28,⟨#[]⟩,0,[a]⟩=sgTk 45 :: tkTk a 2 from rfl] at hs ha ⊢;obtain⟨h1,h2⟩:=hs;rw[show n+(sgTk 45 :: tkTk a 2).length=n+1+(tkTk a 2).length by simp;omega] at ha⊢;refine⟨L,kD4,?_⟩;unfold zDw;rw[kAa (by rw[zBa,h1];rfl),(h K (n+1) kD4).ds h2 ha];rfl
theorem own_sum (op:Int) (c:UInt8) (hop:(op=3∧c=43)∨(op=4∧c=45)) (a b:S31) (ha:∀K n,N<n+1+K→Read4 st chk L N (zAW st chk L K) a n) (hb:∀K n,N<n+1+K→Read4 st chk L N (zAW st chk L K) b n) (hE:Ends st N):Own st chk L N ⟨op,z28,⟨#[]⟩,0,[a,b]⟩:=by
 have e:zAo ⟨op,z28,⟨#[]⟩,0,[a,b]⟩=tkTk a 1++sgTk c :: tkTk b 2:=kDY
 refine .of1 kDY fun K n hn hs hd=>?_
 rw[e] at hs hd ⊢;obtain⟨s1,s2,s3⟩:=(zBH _ _ _).1 hs;rw[show n+(tkTk a 1++sgTk c :: tkTk b 2).length=n+(tkTk a 1).length+1+(tkTk b 2).length by simp;omega] at hd⊢;obtain⟨j,hj,h1⟩:=(ha K n hn).ps s1 (by rw[s2];rcases hop with⟨_,rfl⟩ | ⟨_,rfl⟩<;>exact nd_sg _ kD7);have hlt:=hE.lt (n:=n+(tkTk a 1).length) (by rw[s2];simp);obtain⟨j,rfl⟩:∃i,j=i+1:=⟨j-1,kD4⟩;have h2:=(hb K (n+(tkTk a 1).length+1) kD4).ds s3 hd;refine⟨j,kD4,?_⟩;rw[h1]
 conv=>lhs;unfold zBk
 rcases hop with⟨rfl,rfl⟩ | ⟨rfl,rfl⟩
 ·rw[kAa kDq,h2];rfl
 ·rw[kA9 (by rw[zBa,s2];decide),kAa kDq,h2];rfl
theorem own_prod (op:Int) (c:UInt8) (hop:(op=5∧c=42)∨(op=6∧c=47)) (a b:S31) (ha:∀K n,N<n+1+K→Read4 st chk L N (zAW st chk L K) a n) (hb:∀K n,N<n+1+K→Read4 st chk L N (zAW st chk L K) b n) (hE:Ends st N):Own st chk L N ⟨op,z28,⟨#[]⟩,0,[a,b]⟩:=by
 have e:zAo ⟨op,z28,⟨#[]⟩,0,[a,b]⟩=tkTk a 2++sgTk c :: tkTk b 3:=kDY
 refine .of2 kDY fun K n hn hs hd=>?_
 rw[e] at hs hd ⊢;obtain⟨s1,s2,s3⟩:=(zBH _ _ _).1 hs;rw[show n+(tkTk a 2++sgTk c :: tkTk b 3).length=n+(tkTk a 2).length+1+(tkTk b 3).length by simp;omega] at hd⊢;obtain⟨j,hj,h1⟩:=(ha K n hn).pd s1 (by rw[s2];rcases hop with⟨_,rfl⟩ | ⟨_,rfl⟩<;>exact np_sg _ kD7);have hlt:=hE.lt (n:=n+(tkTk a 2).length) (by rw[s2];simp);obtain⟨j,rfl⟩:∃i,j=i+1:=⟨j-1,kD4⟩;have h2:=(hb K (n+(tkTk a 2).length+1) kD4).pp s3 hd;refine⟨j,kD4,?_⟩;rw[h1]
 conv=>lhs;unfold zAY
 rcases hop with⟨rfl,rfl⟩ | ⟨rfl,rfl⟩
 ·rw[kAa kDq,h2];rfl
 ·rw[kA9 (by rw[zBa,s2];decide),kAa kDq,h2];rfl
theorem own_pow (v:Int) (hlo:-9≤v) (hhi:v≤9) (a:S31) (ha:∀K n,N<n+1+K→Read4 st chk L N (zAW st chk L K) a n):Own st chk L N ⟨7,z28,⟨#[]⟩,v,[a]⟩:=by
 refine .of3 kD9 fun K n hn hs hd=>?_
 rw[show zAo ⟨7,z28,⟨#[]⟩,v,[a]⟩=tkTk a 4++sgTk 94 :: zBN v from rfl] at hs hd ⊢;obtain⟨s1,s2,s3⟩:=(zBH _ _ _).1 hs;rw[show n+(tkTk a 4++sgTk 94 :: zBN v).length=n+(tkTk a 4).length+1+(zBN v).length by simp;omega] at hd⊢;obtain⟨j,hj,h1⟩:=(ha K n hn).pe s1 (by rw[s2];exact na_sg _ kD7);unfold zCw;rw[h1,elem_stop _ j a _ kDq];show zEk st a _=_;unfold zEk;rw[kAa kDq];exact expo_reads a hlo hhi s3
theorem own_at (a b:S31) (ha:∀K n,N<n+1+K→Read4 st chk L N (zAW st chk L K) a n) (hb:zFo st chk L N b) (hE:Ends st N):Own st chk L N ⟨9,z28,⟨#[]⟩,0,[a,b]⟩:=by
 refine .of4 kD9 fun K n hn hs hd=>?_
 rw[show zAo ⟨9,z28,⟨#[]⟩,0,[a,b]⟩=tkTk a 4++sgTk 91 :: (tkTk b 0++[sgTk 93]) from rfl] at hs hd ⊢;obtain⟨s1,s2,s3⟩:=(zBH _ _ _).1 hs;obtain⟨s4,s5,_⟩:=(zBH _ _ _).1 s3;rw[show n+(tkTk a 4++sgTk 91 :: (tkTk b 0++[sgTk 93])).length=n+(tkTk a 4).length+1+(tkTk b 0).length+1 by simp;omega] at hd⊢;obtain⟨j,hj,h1⟩:=(ha K n hn).pe s1 (by rw[s2];exact na_sg _ kD7);have hlt:=hE.lt (n:=n+(tkTk a 4).length) (by rw[s2];simp);obtain⟨j,rfl⟩:∃i,j=i+1:=⟨j-1,kD4⟩;have h2:=hb K (n+(tkTk a 4).length+1) kD4 s4 (by rw[s5];exact ns_sg _ kD7);refine⟨j,kD4,?_⟩;rw[h1]
 conv=>lhs;unfold zB5
 rw[kAa kDq,h2];show zBM (zDv st ⟨#[93]⟩ b _) _=_;unfold zDv;rw[kAa (by rw[zBa,s5];rfl)];rfl
theorem map_tk (l:List S31):((zCy l).map fun p=>zE5 p.1 0 p.2)=l.map fun y=>tkTk y 0:=zFb l
theorem own_list (l:List S31) (h1:l≠[]) (h8:l.length≤8) (hl:∀a∈l,zFo st chk L N a) (hL:N<L):Own st chk L N ⟨8,z28,⟨#[]⟩,0,l⟩:=by
 refine .of4 kD9 fun K n hn hs hd=>?_
 rw[show zAo ⟨8,z28,⟨#[]⟩,0,l⟩=sgTk 91 :: (zCd ((zCy l).map fun p=>zE5 p.1 0 p.2)++[sgTk 93]) from rfl,map_tk] at hs hd ⊢;obtain⟨s1,s2⟩:=hs;have hr:=list_reads 93 (.inr rfl) l 8 [] (n+1) h1 (by simpa using h8) kD6 (fun a ha m hm h3 h4=>hl a ha K m kD4 h3 h4) s2;refine⟨L,kD4,zEP ?_⟩;unfold zFn;rw[kA9 (by rw[s1];decide),kA9 (by rw[s1];decide),kA9 kDs,kAa kDD,hr];show Except.ok _=_;simp[kBR,Nat.add_comm,kCI]
theorem own_call (name:ByteArray) (l:List S31) (h8:l.length≤8) (hl:∀a∈l,zFo st chk L N a) (hL:N<L) (hhd:∀a∈l,∃t r,tkTk a 0=t :: r∧skT t ⟨#[41]⟩=false):Own st chk L N ⟨14,z28,name,0,l⟩:=by
 refine .of4 kD9 fun K n hn hs hd=>?_
 rw[show zAo ⟨14,z28,name,0,l⟩=(0,name) :: sgTk 40 :: (zCd ((zCy l).map fun p=>zE5 p.1 0 p.2)++[sgTk 41]) from rfl,map_tk] at hs hd ⊢;obtain⟨s1,s2,s3⟩:=hs;refine⟨L,kD4,zEP ?_⟩;unfold zFn nameI argsI;rw[kA9 (by rw[s1];simp),kAa (by rw[s1]),kAa kDq];by_cases h0:l=[]
 ·subst h0;have s4:st (n+1+1)=sgTk 41:=s3.1;rw[kAa (by rw[zBa,s4];rfl),s1];rfl
 ·have hr:=list_reads 41 (.inl rfl) l 8 [] (n+1+1) h0 (by simpa using h8) kD6 (fun a ha m hm h3 h4=>hl a ha K m kD4 h3 h4) s3;have h41:skI st (n+1+1) ⟨#[41]⟩=false:=by
   obtain⟨x,r,rfl⟩:=List.exists_cons_of_ne_nil h0;obtain⟨t,u,e,ht⟩:=hhd x (kAQ ..);have hst:st (n+1+1)=t:=by
    cases r with
    | nil=>simp only[kAh,kAr,zCd] at s3;rw[e] at s3;exact s3.1
    | cons y r=>simp only[kAh,zCd] at s3;rw[e] at s3;exact s3.1
   rw[zBa,hst];exact ht
  rw[kA9 (by rw[h41];decide),hr,s1];show Except.ok _=_;simp[kBR,Nat.add_comm,kCI];omega
theorem own_loop (op:Int) (w:ByteArray) (hop:(op=10∧w=⟨#[116,97,98]⟩)∨(op=11∧w=⟨#[115,117,109]⟩)) (name:ByteArray) (v:Int) (hlo:1≤v) (hhi:v≤99) (a:S31) (ha:zFo st chk L N a):Own st chk L N ⟨op,z28,name,v,[a]⟩:=by
 have e:zAo ⟨op,z28,name,v,[a]⟩=(1,w) :: (0,name) :: sgTk 60 :: (zBN v++sgTk 46 :: tkTk a 0):=kDY
 refine .of0 kDY fun K n hn hs hd=>?_
 rw[e] at hs hd ⊢;obtain⟨s1,s2,s3,s4⟩:=hs;obtain⟨s5,s6,s7⟩:=(zBH _ _ _).1 s4;have hx:∀op,loopI st (zAW st chk L K) op (n+1)=.ok (⟨op,z28,name,v,[a]⟩,n+((1,w) :: (0,name) :: sgTk 60 :: (zBN v++sgTk 46 :: tkTk a 0)).length):=by
  intro op;have hd':NS (st (n+1+1+1+(zBN v).length+1+(tkTk a 0).length)):=by
   rw[show n+1+1+1+(zBN v).length+1+(tkTk a 0).length=n+((1,w) :: (0,name) :: sgTk 60 :: (zBN v++sgTk 46 :: tkTk a 0)).length by simp;omega];exact hd
  have h2:=ha K (n+1+1+1+(zBN v).length+1) kD4 s7 hd';unfold loopI loopI3 loopI4;rw[kAa (by rw[s2]),kAa (by rw[zBa,s3];rfl),size_reads hlo hhi s5];show zBM (zEt st _ _ _) _=_;unfold zEt;rw[kAa (by rw[zBa,s6];rfl),h2,s2];show Except.ok _=_;simp[kBR,Nat.add_comm,kCI];omega
 unfold zAW zG7;rcases hop with⟨rfl,rfl⟩ | ⟨rfl,rfl⟩
 ·rw[kA9 kDs,kA9 kDs,kAa kDD];exact hx 10
 ·rw[kA9 kDs,kA9 kDs,kA9 kDs,kAa kDD];exact hx 11
theorem own_let (name:ByteArray) (a b:S31) (ha:zFo st chk L N a) (hb:zFo st chk L N b):Own st chk L N ⟨13,z28,name,0,[a,b]⟩:=by
 refine .of0 kD9 fun K n hn hs hd=>?_
 rw[show zAo ⟨13,z28,name,0,[a,b]⟩=(1,⟨#[108,101,116]⟩) :: (0,name) :: sgTk 61 :: (tkTk a 0++(1,⟨#[105,110]⟩) :: tkTk b 0) from rfl] at hs hd ⊢;obtain⟨s1,s2,s3,s4⟩:=hs;obtain⟨s5,s6,s7⟩:=(zBH _ _ _).1 s4;rw[show n+((1,⟨#[108,101,116]⟩) :: (0,name) :: sgTk 61 :: (tkTk a 0++(1,⟨#[105,110]⟩) :: tkTk b 0):List Tk).length=n+1+1+1+(tkTk a 0).length+1+(tkTk b 0).length by simp;omega] at hd⊢;have h1:=ha K (n+1+1+1) kD4 s5 (by rw[s6];exact ns_word _ kD7);have h2:=hb K (n+1+1+1+(tkTk a 0).length+1) kD4 s7 hd;unfold zAW zG7;rw[kAa kDD];unfold lettI lettJ zEt;rw[kAa (by rw[s2]),kAa (by rw[zBa,s3];rfl),h1];show zBM (if _ then _ else _) _=_;rw[kAa (by rw[zBa,s6];rfl),h2,s2];rfl
theorem own_if (a b c d:S31) (ha:∀K n,N<n+1+K→Read4 st chk L N (zAW st chk L K) a n) (hb:∀K n,N<n+1+K→Read4 st chk L N (zAW st chk L K) b n) (hc:zFo st chk L N c) (hd:zFo st chk L N d):Own st chk L N ⟨12,z28,⟨#[]⟩,0,[a,b,c,d]⟩:=by
 refine .of0 kD9 fun K n hn hs hns=>?_
 rw[show zAo ⟨12,z28,⟨#[]⟩,0,[a,b,c,d]⟩=(1,⟨#[105,102]⟩) :: (tkTk a 1++sgTk 60 :: (tkTk b 1++(1,⟨#[116,104,101,110]⟩) :: (tkTk c 0++(1,⟨#[101,108,115,101]⟩) :: tkTk d 0))) from rfl] at hs hns ⊢;obtain⟨s1,s2⟩:=hs;obtain⟨s3,s4,s5⟩:=(zBH _ _ _).1 s2;obtain⟨s6,s7,s8⟩:=(zBH _ _ _).1 s5;obtain⟨s9,s10,s11⟩:=(zBH _ _ _).1 s8;rw[show n+((1,⟨#[105,102]⟩) :: (tkTk a 1++sgTk 60 :: (tkTk b 1++(1,⟨#[116,104,101,110]⟩) :: (tkTk c 0++(1,⟨#[101,108,115,101]⟩) :: tkTk d 0))):List Tk).length=n+1+(tkTk a 1).length+1+(tkTk b 1).length+1+(tkTk c 0).length+1+(tkTk d 0).length by simp;omega] at hns⊢;have h1:=(ha K (n+1) kD4).ss s3 (by rw[s4];exact ns_sg _ kD7);have h2:=(hb K (n+1+(tkTk a 1).length+1) kD4).ss s6 (by rw[s7];exact ns_word _ kD7);have h3:=hc K (n+1+(tkTk a 1).length+1+(tkTk b 1).length+1) kD4 s9 (by rw[s10];exact ns_word _ kD7);have h4:=hd K (n+1+(tkTk a 1).length+1+(tkTk b 1).length+1+(tkTk c 0).length+1) kD4 s11 hns;unfold zAW zG7;rw[kA9 kDs,kAa kDD];unfold ifI zEt;rw[h1];show zBM (if _ then _ else _) _=_;rw[kAa (by rw[zBa,s4];rfl),h2];show zBM (if _ then _ else _) _=_;rw[kAa (by rw[zBa,s7];rfl),h3];show zBM (if _ then _ else _) _=_;rw[kAa (by rw[zBa,s10];rfl),h4];rfl
end
theorem reads_all {st:Nat→Tk} {L N:Nat} (hE:Ends st N) (hL:N<L):∀(d:Nat) (x:S31),zAI x≤d→OkX x →
  (∀K n,N<n+1+K→Read4 st chkR L N (zAW st chkR L K) x n)∧zFo st chkR L N x:=by
 intro d
 induction d with
 | zero=>intro x h;rw[zAw] at h;omega
 | succ d ih =>
  intro x hd hok;refine Own.all ?_ hok hL hE;obtain⟨_,hlook,hl⟩:=hok;have hn:=zCT hlook;rw[zAw] at hd;have ha:∀a∈x.f4,(∀K n,N<n+1+K→Read4 st chkR L N (zAW st chkR L K) a n)∧zFo st chkR L N a:=fun a ha=>ih a kDR (hl a ha)
  obtain⟨op,num,name,size,l⟩:=x;simp only at hn ha hl;have l1:l.length=1→∃a,l=[a]:=fun h=>List.length_eq_one_iff.1 h
  have l2:l.length=2→∃a b,l=[a,b]:=fun h=>by
   match l,h with
   | [a,b],_=>exact⟨a,b,rfl⟩
  have l4:l.length=4→∃a b c d,l=[a,b,c,d]:=fun h=>by
   match l,h with
   | [a,b,c,d],_=>exact⟨a,b,c,d,rfl⟩
  rcases hn with⟨rfl,h1,h2,h3,rfl,hk⟩ | ⟨rfl,rfl,hn,rfl,hk⟩ | ⟨rfl,rfl,rfl,rfl,hk⟩ | ⟨ho,rfl,rfl,rfl,hk⟩ | ⟨rfl,rfl,rfl,⟨hs0,hs1⟩,hk⟩ | ⟨rfl,rfl,rfl,rfl,hk0,hk1⟩ | ⟨ho,rfl,hn,⟨hs0,hs1⟩,hk⟩ | ⟨rfl,rfl,rfl,rfl,hk⟩ | ⟨rfl,rfl,hn,rfl,hk⟩ | ⟨rfl,rfl,hn,rfl,hk⟩
  ·obtain rfl:=List.length_eq_zero_iff.1 hk;exact own_lit num name h1 hL
  ·obtain rfl:=List.length_eq_zero_iff.1 hk;exact own_ref name hL
  ·obtain⟨a,rfl⟩:=l1 hk;exact own_neg a (ha a kD6).1 hL
  ·obtain⟨a,b,rfl⟩:=l2 hk;have h1:=ha a kD6;have h2:=ha b kD6;rcases ho with rfl | rfl | rfl | rfl | rfl
   ·exact own_sum 3 43 (.inl ⟨rfl,rfl⟩) a b h1.1 h2.1 hE
   ·exact own_sum 4 45 (.inr ⟨rfl,rfl⟩) a b h1.1 h2.1 hE
   ·exact own_prod 5 42 (.inl ⟨rfl,rfl⟩) a b h1.1 h2.1 hE
   ·exact own_prod 6 47 (.inr ⟨rfl,rfl⟩) a b h1.1 h2.1 hE
   ·exact own_at a b h1.1 h2.2 hE
  ·obtain⟨a,rfl⟩:=l1 hk;exact own_pow size hs0 hs1 a (ha a kD6).1
  ·exact own_list l (fun e=>by rw[e] at hk0;simp at hk0) hk1 (fun a h=>(ha a h).2) hL
  ·obtain⟨a,rfl⟩:=l1 hk;rcases ho with rfl | rfl
   ·exact own_loop 10 _ (.inl ⟨rfl,rfl⟩) name size hs0 hs1 a (ha a kD6).2
   ·exact own_loop 11 _ (.inr ⟨rfl,rfl⟩) name size hs0 hs1 a (ha a kD6).2
  ·obtain⟨a,b,c,d,rfl⟩:=l4 hk;exact own_if a b c d (ha a kD6).1 (ha b kD6).1 (ha c kD6).2 (ha d kD6).2
  ·obtain⟨a,b,rfl⟩:=l2 hk;exact own_let name a b (ha a kD6).2 (ha b kD6).2
  ·refine own_call name l hk (fun a h=>(ha a h).2) hL (fun a h=>?_);rw[zDA];have ho:=hl a h;by_cases h1:1≤levR a.f0
   ·obtain⟨t,r,e,hh⟩:=head_sum _ a (kA2 _) ho h1;refine⟨t,r,e,?_⟩;rcases hh with hh | rfl
    ·exact hh.sk _ kD7
    ·rfl
   ·have h0:levR a.f0=0:=by have:=lev_pos a.f0;omega
    rw[zDJ];have hop:a.f0=13∨a.f0=12∨a.f0=10∨a.f0=11:=by
     unfold levR at h0
     repeat' split at h0
     all_goals first | omega | skip
    rcases hop with e | e | e | e<;>rw[e]<;>exact⟨_,_,rfl,rfl⟩
end
theorem lit_any (W0:World) (R B:Nat) (ts:List S47) (en now:Nat) (w:World) (E:Env W0 R B ts) (hS:Start W0) (h:St W0 R B ts en now w) (h2:(tokP ts en now).f0=2) :
  Calls Tryz.prog 278 #[.pointer (some ⟨R,0,none⟩)] w (zAk w R ts en now (litS ts en chkR now)):=by
 unfold litS
 cases hbar:sk ts en (now+1) ⟨#[124]⟩ with
 | false =>
  rw[kA9 kD7];exact lit_plain W0 R B ts en now w E h h2 hbar
 | true =>
  rw[kAa rfl];by_cases hk:(tokP ts en (now+2)).f0=2
  ·by_cases hne:(tokP ts en (now+2)).f1.toList=[49]
   ·rw[kA9 (fun h=>h.2.1 hne)];exact lit_badC W0 R B ts en now w E hS h h2 hbar hk hne
   ·by_cases hc:chkR ⟨(tokP ts en now).f1,(tokP ts en (now+2)).f1⟩=0
    ·rw[kAa ⟨hk,hne,hc⟩];exact lit_quot W0 R B ts en now w E hS h h2 hbar hk hne hc
    ·rw[kA9 (fun h=>hc h.2.2)];exact lit_badD W0 R B ts en now w E hS h h2 hbar hk hne hc
  ·rw[kA9 (fun h=>hk h.1)];exact lit_badB W0 R B ts en now w E hS h h2 hbar hk
theorem pars_all (W0:World) (R B:Nat) (ts:List S47) (en:Nat) (E:Env W0 R B ts) (hS:Start W0) :
  ∀k m,ts.length<m+k→Pars W0 R B ts en 134 (zF9 ts en chkR k) m:=by
 intro k
 induction k with
 | zero=>intro m hm now w hmn h;have:=h.pos;omega
 | succ k ih =>
  intro m hm;have hex:=ih (m+1) kD4;have hatom:Pars W0 R B ts en 252 (atomS ts en chkR (zF9 ts en chkR k)) m:=atom_walk W0 R B ts en chkR _ m E (fun now w hmn h h2=>lit_any W0 R B ts en now w E hS h h2) hex;have helem:Pars W0 R B ts en 217 (zCF ts en chkR (zF9 ts en chkR k)) m:=fun now w hmn h=>element_walk W0 R B ts en chkR _ m now w E h hmn hatom hex
  have hpow:Pars W0 R B ts en 180 (zCR ts en chkR (zF9 ts en chkR k)) m:=fun now w hmn h=>power_walk W0 R B ts en chkR _ m now w E h hmn helem
  have hprod:Pars W0 R B ts en 160 (zAX ts en chkR (zF9 ts en chkR k)) m:=fun now w hmn h=>product_walk W0 R B ts en chkR _ m now w E h hmn hpow
  have hsums:Pars W0 R B ts en 135 (zD2 ts en chkR (zF9 ts en chkR k)) m:=sums_walk W0 R B ts en chkR (zF9 ts en chkR k) m E hprod;intro now w hmn h;show Calls _ _ _ _ (zAk w R ts en now (exprB ts en chkR (zF9 ts en chkR k) now));unfold exprB
  cases h1:sk ts en now ⟨#[108,101,116]⟩ with
  | true =>
   rw[kAa rfl];exact expr_let W0 R B ts en _ (m+1) now w E h kD4 hex h1
  | false =>
   rw[kA9 kD7]
   cases h2:sk ts en now ⟨#[105,102]⟩ with
   | true =>
    rw[kAa rfl];exact expr_if W0 R B ts en chkR _ (m+1) now w E h kD4 hex (fun now w hm h=>hsums now w kD4 h) h1 h2
   | false =>
    rw[kA9 kD7]
    cases h3:sk ts en now ⟨#[116,97,98]⟩ with
    | true =>
     rw[kAa rfl];exact expr_tab W0 R B ts en now w E h h1 h2 h3 _ (fun w' h'=>loop_walk W0 R B ts en _ 10 (m+1) (now+1) w' E h' kD4 hex) |>.mono (fun _ _ h=>h)
    | false =>
     rw[kA9 kD7]
     cases h4:sk ts en now ⟨#[115,117,109]⟩ with
     | true =>
      rw[kAa rfl];exact expr_sum W0 R B ts en now w E h h1 h2 h3 h4 _ (fun w' h'=>loop_walk W0 R B ts en _ 11 (m+1) (now+1) w' E h' kD4 hex)
     | false =>
      rw[kA9 kD7];exact expr_plain W0 R B ts en now w E h h1 h2 h3 h4 _ (fun w' h'=>hsums now w' hmn h')
structure ReadT (chk:S28→Int) (s:ByteArray):Prop where
 size:s.size≤2000
 few:(zA9 s).length≤100000
 small:∀t∈zA9 s,t.f1.size≤2000
 pars:∀W0 R B,Env W0 R B (zA9 s)→Start W0→Pars W0 R B (zA9 s) s.size 134 (zF9 (zA9 s) s.size chk ((zA9 s).length+1)) 0
theorem whole2 (chk:S28→Int) (s:ByteArray) (h:ReadT chk s) (X:Nat) (w:World) (hS:Start w) (hX0:X≠0) {x0 x1 x2 x3 x4 x5:Value} (hX:w.heap[X]?=some (.cells #[x0,x1,x2,x3,x4,x5] 31 (0,0))) :
  Calls Tryz.prog 55 #[.string s,.func (.func 56) #[] #[.pointer (some ⟨X,0,none⟩)]] w (zDP chk s X w):=by
 have hXl:=zA5 hX;have hmf:∀(fn:Fn) (first cap:Array Value) (w:World),(Instr.makeFunc fn first cap).run Tryz.prog w=.ok (.func fn first cap) w:=fun _ _ _ _=>rfl
 have hb0:Below w.heap.size w (w.alloc (.cells #[.int .i64 0] 3)):=(kA3 _ w).alloc (kA2 _) _;have hnr:=zFW s h.size (w.alloc (.cells #[.int .i64 0] 3));have h0:(w.alloc (.cells #[.int .i64 0] 3)).heap[w.heap.size]?=some (.cells #[.int .i64 0] 3 (0,0)):=zA4 w _;go_enter_defers Tryz.func55,Tryz.ntmps55;go_wp2_with fail;refine hnr.mono ?_;rintro e w1 ⟨R,rfl,hR,hrd,hb1⟩;have hR':=hR;simp only[kAw] at hR;have hX1:w1.heap[X]?=some (.cells #[x0,x1,x2,x3,x4,x5] 31 (0,0)):=zAa hb1 ((kA4 _ _ _ hXl).trans hX);have hs1:w1.heap[w.heap.size]?=some (.cells #[.int .i64 0] 3 (0,0)):=zAa hb1 h0;have hw1:Below w.heap.size w w1:=hb0.trans (hb1.mono kD6);have hXR:X≠R:=kD4
 have hE:Env (w.alloc (.cells #[.int .i64 0] 3)) R w1.heap.size (zA9 s):=⟨hS.laid.below hb0,hR',hrd.lt,h.few,h.small⟩;have hp:=h.pars _ R _ hE (hS.below hb0) 0 w1 (kA2 _) ⟨hrd,hb1,kA2 _,kAI _⟩;have h56:=do56 R X (zA9 s) 0 s.size w1 hrd _ hX1 hXR hp;have hfew:=h.few;have herr:=hS.err;change Calls _ _ _ _ (Post56 w1 R X (zA9 s) s.size (zCS chk s)) at h56;have hq:∃q,q=zCx chk s:=⟨_,rfl⟩;unfold zCx at hq
 cases hr:zCS chk s with
 | error p =>
  rw[hr] at h56 hq;obtain⟨q,hq⟩:=hq;unfold Post56 zAm at h56;clear hE hp h;go_wp2_with fail;refine h56.mono ?_;rintro e w2 ⟨rfl,hg2⟩;have hw2:w.grownBy w2 (some R):=kA7 (kAk (kAS _ _) hw1) hg2;have hs2:=zAj hg2 hs1 kD4;have hX2:=zAj hg2 hX1 hXR;have hc2:w2.cell? ⟨0,0,none⟩=some (.iface 209 (.agg #[.pointer (some ⟨7,134,none⟩)])):=zA0 (hw1.grown hg2 hw1.size (fun j e=>by injection e with e;omega)) herr;go_wp2;refine kCk (f:=90) (args:=#[.pointer (some ⟨w.heap.size,0,none⟩)]) kD6 kDk ?_;refine (zDO w.heap.size p (.int .i64 0) [] w2 hs2 hc2).mono ?_;rintro e u w3 ⟨rfl,rfl,hs3,hg3⟩;have c4:w3.cell? ⟨w.heap.size,0,none⟩=some (.int .i64 p):=zA1 hs3 0;have hfin:zDP chk s X w (.returned (.int .i64 p)) w3:=by
   refine⟨?_,?_,?_⟩
   ·unfold zCx;rw[hr]
   ·exact zG2 _ (kA7 (zG2 _ hw2 kD4) hg3) (kA2 _)
   ·intro x hx;rw[hr] at hx;cases hx
  simp[Leaves,settle,results,Tryz.results55,go_sem,c4,hfin]
 | ok r =>
  obtain⟨x,n⟩:=r;rw[hr] at h56 hq;obtain⟨q,hq⟩:=hq;unfold Post56 at h56;clear hE hp h;go_wp2_with fail;refine h56.mono ?_;rintro e w2 ⟨hn,rfl,v5,w5,hk,hx,rfl⟩;have hX5:=hk.blk hX1 hXR;have hrd3:=hk.rdr.set6 hX5 hXR (.int .i64 x.f0) (.string x.f1.f0) (.string x.f1.f1) (.string x.f2) (.int .i64 x.f3) v5;have hX3:=fin6 (.int .i64 x.f0) (.string x.f1.f0) (.string x.f1.f1) (.string x.f2) (.int .i64 x.f3) v5 hX5;have hws:w.heap.size<w1.heap.size:=zA5 hs1;have hx3:=hx.set6 (R:=X) (fun k hk e=>by have:w1.heap.size≤k:=hk;omega) (.int .i64 x.f0) (.string x.f1.f0) (.string x.f1.f1) (.string x.f2) (.int .i64 x.f3) v5;have hg3:w.grownBy (set6 w5 X (.int .i64 x.f0) (.string x.f1.f0) (.string x.f1.f1) (.string x.f2) (.int .i64 x.f3) v5) (some X) :=
   kA7 (zG2 _ (kA7 (kAk (kAS _ _) hw1) hk.grown) kD4) (zCW _ _ _ _ _ _ _)
  have hs3:(set6 w5 X (.int .i64 x.f0) (.string x.f1.f0) (.string x.f1.f1) (.string x.f2) (.int .i64 x.f3) v5).heap[w.heap.size]?=some (.cells #[.int .i64 0] 3 (0,0)) :=
   zAj (zCW X _ _ _ _ _ _) (hk.blk hs1 kD4) kD4
  have hsz3:w.heap.size<(set6 w5 X (.int .i64 x.f0) (.string x.f1.f0) (.string x.f1.f1) (.string x.f2) (.int .i64 x.f3) v5).heap.size:=zA5 hs3;generalize set6 w5 X (.int .i64 x.f0) (.string x.f1.f0) (.string x.f1.f1) (.string x.f2) (.int .i64 x.f3) v5=w3 at *;have hc3:=cell_grown hg3 herr (fun e=>hX0 e.symm);obtain⟨d0,g0,d1,d2,hlt3⟩:=hrd3.cells;have hrd4:Rdr w3.drew R (zA9 s) n s.size:=hrd3.keep (kA3 _ w3).drew;obtain⟨A,c,hl0⟩:=list0_calls R _ _ _ w3.drew hrd4;have hs4:w3.drew.heap[w.heap.size]?=some (.cells #[.int .i64 0] 3 (0,0)):=zAa (kA3 _ w3).drew hs3;have hg4:w.grownBy w3.drew (some X):=kAk hg3 (kA3 _ w3).drew;have hX4:=zAa (kA3 _ w3).drew hX3;have hx4:=hx3.below (kA3 _ w3).drew;have hc4:=zA0 (kA3 _ w3).drew hc3;by_cases hnl:n=(zA9 s).length
  ·rw[kAa hnl] at hq;subst hnl;have heq:(((zA9 s).length:Int)==(zA9 s).length)=true:=by rw[kAA]
   have hs5:=zA8 hs4 0 (.int .i64 (-1));have hf4:=zA2 hs4 0;have hf3:=zA2 hs3 0;have hcc3:=zA1 hs3 0;have hfin:zDP chk s X w (.returned (.int .i64 (-1))) (w3.setCell ⟨w.heap.size,0,none⟩ (.int .i64 (-1))).drew:=by
    refine⟨?_,?_,?_⟩
    ·unfold zCx;rw[hr];simp
    ·exact kAk (grown_set hg3 ⟨w.heap.size,0,none⟩ (kA2 _) _) (kA3 _ _).drew
    ·intro x' hx';rw[hr] at hx';injection hx' with hx';injection hx' with hx' _;subst hx';refine⟨v5,zAa (kA3 _ _).drew ((kA5 _ _ _ _ kD8).trans hX3),Ex.mono (Ex.below (Ex.step hx3 (fun k hk hlt=>?_)) (kA3 _ _).drew) (fun k hk=>kAB (kAP hws) hk)⟩;exact kA5 _ _ _ _ (by have:w1.heap.size≤k:=hk;simp;omega)
   go_wp2_with fail;go_still_tail 12,kD5;still_call hl0
   repeat still_step
   try refine wpStill_nil ?_
   change wpList _ _ _ _ _ w3.drew;go_wp2_with (go_at_call 93;refine (zDK R _).mono ?_;rintro e w6 ⟨rfl,rfl⟩);have c4:(w3.setCell ⟨w.heap.size,0,none⟩ (.int .i64 (-1))).drew.cell? ⟨w.heap.size,0,none⟩=some (.int .i64 (-1)):=by
    have:=zA1 (zAa (kA3 _ _).drew (zA8 hs3 0 (.int .i64 (-1)))) 0;exact this
   generalize (w3.setCell ⟨w.heap.size,0,none⟩ (.int .i64 (-1))).drew=w9 at *;refine kCk (f:=90) (args:=#[.pointer (some ⟨w.heap.size,0,none⟩)]) kD6 kDk ?_;refine (catch_idle ⟨w.heap.size,0,none⟩ w9).mono ?_;rintro e u w6 ⟨rfl,rfl,rfl⟩;simp[Leaves,settle,results,Tryz.results55,go_sem,c4,hfin]
  ·rw[kA9 hnl] at hq;have heq:((n:Int)==(zA9 s).length)=false:=by rw[kAd];omega
   have hmust:=zC4 R _ _ _ w3.drew hrd4 hn;rw[← hq] at hmust;unfold zAm at hmust;go_wp2_with fail;go_still_tail 12,kD5;still_call hl0
   repeat still_step
   try refine wpStill_nil ?_
   change wpList _ _ _ _ _ w3.drew;go_wp2_with (go_at_call 93;refine hmust.mono ?_;rintro e w6 ⟨rfl,hb6⟩);have hs6:=zAa hb6 hs4;have hc6:=zA0 hb6 hc4;refine kCk (f:=90) (args:=#[.pointer (some ⟨w.heap.size,0,none⟩)]) kD6 kDk ?_;refine (zDO w.heap.size (tokP (zA9 s) s.size n).f2 (.int .i64 0) [] w6 hs6 hc6).mono ?_;rintro e u w7 ⟨rfl,rfl,hs7,hg7⟩;have c4:w7.cell? ⟨w.heap.size,0,none⟩=some (.int .i64 (tokP (zA9 s) s.size n).f2):=zA1 hs7 0;have hfin:zDP chk s X w (.returned (.int .i64 (tokP (zA9 s) s.size n).f2)) w7:=by
    refine⟨?_,?_,?_⟩
    ·unfold zCx;rw[hr];simp only[kA9 hnl]
    ·have h6:=kAk hg4 hb6;exact⟨hg7.os.trans h6.os,hg7.tape.trans h6.tape,hg7.output.trans h6.output,kAB h6.size hg7.size,fun j hj hne=>(hg7.block j (kBs hj h6.size) (fun e=>by injection e with e;omega)).trans (h6.block j hj hne)⟩
    ·intro x' hx';rw[hr] at hx';injection hx' with hx';injection hx' with _ hx';exact absurd hx' hnl
   simp[Leaves,settle,results,Tryz.results55,go_sem,c4,hfin]
theorem ReadExpr2 (chk:S28→Int) (s:ByteArray) (h:ReadT chk s) (w:World) (hS:Start w) (hpl:zCx chk s<0→∃x,zCS chk s=.ok (x,(zA9 s).length)∧zAl x≤4611686018427387904) :
  Calls Tryz.prog 18 #[.string s] w (zE3 chk s w):=by
 have hbig:decide (2000<(s.size:Int))=false:=by rw[kBT];have:=h.size;omega
 have hw:=fun X w hS hX0 x0 x1 x2 x3 x4 x5 hX=>whole2 chk s h X w hS hX0 (x0:=x0) (x1:=x1) (x2:=x2) (x3:=x3) (x4:=x4) (x5:=x5) hX
 have hb0:Below w.heap.size w ((w.alloc zO).alloc zO):=((kA3 _ w).alloc (kA2 _) _).alloc kD6 _;have h0:((w.alloc zO).alloc zO).heap[w.heap.size]?=some zO:=(kA4 _ _ _ kD6).trans (zA4 w _);have h1:((w.alloc zO).alloc zO).heap[w.heap.size+1]?=some zO:=by have:=zA4 (w.alloc zO) zO;rwa [kAw] at this
 have hpos:0<w.heap.size:=by have:=kAJ w _ hS.err;simpa using this
 have hmf:∀(fn:Fn) (first cap:Array Value) (w:World),(Instr.makeFunc fn first cap).run Tryz.prog w=.ok (.func fn first cap) w:=fun _ _ _ _=>rfl
 have hw1:=hw (w.heap.size+1) _ (hS.below hb0) kD4 _ _ _ _ _ _ h1;unfold zDP at hw1;unfold zO at hw1 h0 h1 hb0;obtain⟨q,hq⟩:∃q,q=zCx chk s:=⟨_,rfl⟩;rw[← hq] at hw1 hpl;have HQ:=kA1 hq;have HS:=kA1 hS;clear hq hw h hS;by_cases hp:0≤q
 ·have hp':decide (0≤q)=true:=kA8 hp;go_enter Tryz.func18,Tryz.ntmps18;go_wp2_with fail;refine hw1.mono ?_;rintro e w2 ⟨rfl,hg2,_⟩;have hb2:=hb0.grown hg2 hb0.size (fun j e=>by injection e with e;omega);have r2:=zAj hg2 h0 kD4;obtain⟨⟨c0,c1,c2,c3,c4,c5⟩,⟨f0,f1,f2,f3,f4,f5⟩,rl⟩:=zA6 r2;go_wp2;have hr:zDx chk s=(z31,q,1):=by unfold zDx;rw[← HQ.out,kAa hp]
  refine kAi (zDn rfl _ _ w.heap.size 31 _ (0,0) _ rfl (fin6 _ _ _ _ _ _ r2) Tryz.underlying31 rfl zB6) rfl ?_;unfold zE3;rw[hr];exact⟨_,rfl,Ex.leaf _ rfl,below6 hb2 (kA2 _) _ _ _ _ _ _⟩
 ·have hp':decide (0≤q)=false:=kAc hp;obtain⟨x,hx,hnx⟩:=hpl kD4;go_enter Tryz.func18,Tryz.ntmps18;go_wp2_with fail;refine hw1.mono ?_;rintro e w2 ⟨rfl,hg2,hx2⟩;obtain⟨v5,hX2,hE⟩:=hx2 x hx;have hb2:=hb0.grown hg2 hb0.size (fun j e=>by injection e with e;omega);have r2:=zAj hg2 h0 kD4;unfold exC at hX2;obtain⟨⟨q0,q1,q2,q3,q4,q5⟩,_,xl⟩:=zA6 hX2;have hdp:=deep_calls (zAI x) x (kA2 _) hnx (exV x v5) w2 hE.vw;unfold exV at hdp;obtain⟨A5,n5,c5,rfl⟩:∃A n c,v5=.slice A n c:=by
   obtain⟨v,A,n,c,h1,rfl,_⟩:=hE.cells;unfold exV at h1;injection h1 with h1;simp at h1;exact⟨A,n,c,h1⟩
  have HE:=kA1 hE;have hpR:zCS chk s=.ok (x,(zA9 s).length):=hx;have HX:=kA1 hX2;clear hE hx2 hX2;go_wp2_with fail;refine hdp.mono ?_;rintro e w3 ⟨rfl,hb3⟩;have hf:=field100_1 (zAl x) (zAI x);have r3:=zAa hb3 r2;have x3:=zAa hb3 HX.out;have hE3:=HE.out.below hb3;have hb4:=hb2.trans (hb3.mono hb2.size);obtain⟨⟨c0,c1,c2,c3,c4,c5⟩,⟨f0,f1,f2,f3,f4,f5⟩,rl⟩:=zA6 r3;by_cases hd:30<zAI x
  ·have hd':decide (30<(zAI x:Int))=true:=kA8 kD4;go_wp2;have hr:zDx chk s=(z31,0,7):=by unfold zDx;rw[← HQ.out,kA9 (show ¬0≤q by omega),hpR];simp only[kAa hd]
   refine kAi (zDn rfl _ _ w.heap.size 31 _ (0,0) _ rfl (fin6 _ _ _ _ _ _ r3) Tryz.underlying31 rfl zB6) rfl ?_;unfold zE3;rw[hr];exact⟨_,rfl,Ex.leaf _ rfl,below6 hb4 (kA2 _) _ _ _ _ _ _⟩
  ·have hd':decide (30<(zAI x:Int))=false:=kAc kD4;obtain⟨⟨y0,y1,y2,y3,y4,y5⟩,_,xl3⟩:=zA6 x3;go_wp2;have hr:zDx chk s=(x,0,0):=by unfold zDx;rw[← HQ.out,kA9 (show ¬0≤q by omega),hpR];simp only[kA9 hd]
   refine kAi (zDn rfl _ _ w.heap.size 31 _ (0,0) _ rfl (fin6 _ _ _ _ _ _ r3) Tryz.underlying31 rfl zB6) rfl ?_;unfold zE3;rw[hr];refine⟨_,rfl,(hE3.set6 (R:=w.heap.size) (fun k hk e=>by have:((w.alloc _).alloc _).heap.size≤k:=hk;simp at this;omega) _ _ _ _ _ _).mono (fun k hk=>?_),below6 hb4 (kA2 _) _ _ _ _ _ _⟩;have:((w.alloc _).alloc _).heap.size≤k:=hk;simp at this;show w.heap.size≤k;omega
theorem bytes_cons {s:ByteArray} {b:Nat} (h:b<s.size):zAu s b=s[b] :: zAu s (b+1):=by
 unfold zAu;rw[kAp (show b<s.data.toList.length from h)];rfl
theorem tok_size (s:ByteArray) (b:Nat):(zAO s b).1.f1.size≤s.size:=by
 unfold zAO;by_cases h:b<s.size
 ·rw[kCs h]
  repeat' split
  all_goals first | (rw[kBr];omega) | exact kAI _ | (show 1≤s.size;omega)
 ·rw[dif_neg h];exact kAI _
theorem toksF_all (P:S47→Prop) (s:ByteArray) (hP:∀b,b<s.size→P (zAO s b).1):∀(n a:Nat),∀t∈zCf n s a,P t:=by
 intro n
 induction n with
 | zero=>intro a t ht;cases ht
 | succ n ih =>
  intro a t ht;unfold zCf at ht;by_cases hb:zAt s a<s.size
  ·rw[kAa hb] at ht;by_cases hk:(zAO s (zAt s a)).1.f0=-1
   ·rw[kAa hk,kBt] at ht;rw[ht];exact hP _ hb
   ·rw[kA9 hk,kAO] at ht;rcases ht with rfl | ht
    ·exact hP _ hb
    ·exact ih _ t ht
  ·rw[kA9 hb] at ht;cases ht
theorem all_small (s:ByteArray):∀t∈zA9 s,t.f1.size≤s.size:=toksF_all _ s (fun b _=>tok_size s b) _ _
theorem readT_all (s:ByteArray) (h:s.size≤2000):ReadT chkR s:=by
 have hl:=zCl (s.size+1) s 0;have hl2:(zA9 s).length≤100000:=by unfold zA9;omega
 refine⟨h,hl2,fun t ht=>kAB (all_small s t ht) h,fun W0 R B E hS=>?_⟩;exact pars_all W0 R B (zA9 s) s.size E hS _ 0 kD4
theorem st_ends (ts:List S47) (en:Nat):Ends (stOf ts en) ts.length:=⟨fun i hi=>by
 unfold stOf tokP;rw[dif_neg kD4]⟩
theorem st_at (ts:List S47) (en i:Nat) (h:i<ts.length):stOf ts en i=kt ts[i]:=by
 unfold stOf tokP;rw[kCs h]
theorem st_end (ts:List S47) (en:Nat):stOf ts en ts.length=(-1,⟨#[]⟩):=by
 unfold stOf tokP;rw[dif_neg kD4]
theorem sees_of (ts:List S47) (en:Nat):∀(l:List Tk) (n:Nat),(ts.drop n).map kt=l→Sees (stOf ts en) n l:=by
 intro l
 induction l with
 | nil=>intro n _;trivial
 | cons t l ih =>
  intro n h;have hn:n<ts.length:=by
   by_cases hn:n<ts.length
   ·exact hn
   ·rw[kBq kD4] at h;cases h
  rw[kAp hn,kAh] at h;injection h with h1 h2;exact⟨by rw[st_at ts en n hn];exact h1,ih (n+1) h2⟩
theorem read_toks {b:ByteArray} {x:S31} (hok:OkX x) (h:(zA9 b).map kt=zAo x):zCS chkR b=.ok (x,(zA9 b).length):=by
 unfold zCS;rw[← exprI_of];generalize zA9 b=ts at *;have hE:=st_ends ts b.size;have hr:=(reads_all hE (show ts.length<ts.length+1 by omega) _ x (kA2 _) hok).2 (ts.length+1) 0 kD4 (by rw[zDA];exact sees_of ts b.size _ 0 kDS);have hl:(zAo x).length=ts.length:=by rw[← h];simp
 rw[zDA,hl,kAv] at hr;rw[hr (by rw[st_end];exact ns_end)];rfl
theorem readS_ok {b:ByteArray} {x:S31} (h:zCS chkR b=.ok (x,(zA9 b).length)) (hd:zAI x≤30):zDx chkR b=(x,0,0):=by
 unfold zDx zCx;rw[h];simp only[kCO];rw[kA9 kD7,kA9 kD4]
theorem tw_same {f:UInt8→Bool} {r r':List UInt8} (hr:r'=[]∨∃t,r'=32 :: t):∀(x:List UInt8),(((x++r).takeWhile f).length<x.length∨(((x++r).takeWhile f).length≤x.length∧f 32=false))→(x++r').takeWhile f=(x++r).takeWhile f:=by
 intro x
 induction x with
 | nil =>
  intro h;rcases h with h | ⟨h,hf⟩
  ·exact absurd h (Nat.not_lt_zero _)
  ·rw[List.nil_append] at h;rw[List.nil_append,List.nil_append,kAK (Nat.le_zero.1 h)];rcases hr with rfl | ⟨t,rfl⟩
   ·rfl
   ·rw[kB0,hf];rfl
 | cons c x ih =>
  intro h;rw[List.cons_append,kB0] at h;rw[List.cons_append,List.cons_append,kB0,kB0];by_cases hc:f c=true
  ·rw[kAa hc,List.length_cons,List.length_cons] at h;rw[kAa hc,kAa hc];rcases h with h | ⟨h,hf⟩
   ·rw[ih (.inl kD4)]
   ·rw[ih (.inr ⟨kD4,hf⟩)]
  ·rw[kA9 hc,kA9 hc]
def Keep (s s':ByteArray) (p:Nat):Prop:=∃x r r',s.data.toList=x++r∧s'.data.toList=x++r'∧x.length=p∧(r'=[]∨∃t,r'=32 :: t)
theorem Keep.size {s s':ByteArray} {p:Nat} (h:Keep s s' p):p≤s.size∧p≤s'.size:=by
 obtain⟨x,r,r',h1,h2,h3,_⟩:=h;have e1:s.data.toList.length=s.size:=rfl;have e2:s'.data.toList.length=s'.size:=rfl;rw[h1,kAt] at e1;rw[h2,kAt] at e2;omega
theorem Keep.bytes {s s':ByteArray} {p:Nat} (h:Keep s s' p) {b:Nat} (hb:b≤p):∃y r r',zAu s b=y++r∧zAu s' b=y++r'∧y.length=p-b∧(r'=[]∨∃t,r'=32 :: t):=by
 obtain⟨x,r,r',h1,h2,h3,h4⟩:=h;refine⟨x.drop b,r,r',?_,?_,by rw[kAm,h3],h4⟩
 ·unfold zAu;rw[h1,kC6 kD4]
 ·unfold zAu;rw[h2,kC6 kD4]
theorem Keep.run {s s':ByteArray} {p:Nat} (h:Keep s s' p) {f:UInt8→Bool} {b:Nat} (hb:b≤p) (hn:b+((zAu s b).takeWhile f).length<p∨(b+((zAu s b).takeWhile f).length≤p∧f 32=false)):(zAu s' b).takeWhile f=(zAu s b).takeWhile f:=by
 obtain⟨y,r,r',h1,h2,h3,h4⟩:=h.bytes hb;rw[h1] at hn;rw[h1,h2];rcases hn with hn | ⟨hn,hf⟩
 ·exact tw_same h4 y (.inl kD4)
 ·exact tw_same h4 y (.inr ⟨kD4,hf⟩)
theorem Keep.ext {s s':ByteArray} {p:Nat} (h:Keep s s' p) {b c:Nat} (hb:b≤p) (hc:c≤p):s'.extract b c=s.extract b c:=by
 obtain⟨y,r,r',h1,h2,h3,h4⟩:=h.bytes hb;apply ba_ext;rw[kBj,kBj];unfold zAu at h1 h2;rw[h1,h2,kC7 kD4,kC7 kD4]
theorem Keep.byte {s s':ByteArray} {p:Nat} (h:Keep s s' p) {b:Nat} (hb:b<p) (h1:b<s.size) (h2:b<s'.size):s'[b]'h2=s[b]'h1:=by
 obtain⟨y,r,r',e1,e2,e3,_⟩:=h.bytes (kAP hb);rw[bytes_cons h1] at e1;rw[bytes_cons h2] at e2
 cases y with
 | nil=>simp at e3;omega
 | cons c y =>
  rw[List.cons_append] at e1 e2;injection e1 with e1 _;injection e2 with e2 _;rw[e1,e2]
theorem ok_blank {ks:List Int} (h:(1:Int) ∉ ks):okC ks 32=false:=by
 unfold okC;have:srt (32:UInt8).toNat=1:=kD7
 rw[this];simp[h]
theorem tok_keep {s s':ByteArray} {p b:Nat} (h:Keep s s' p) (hb:b<p) (hk:(zAO s b).1.f0≠-1) (he:(zAO s b).2≤p):zAO s' b=zAO s b:=by
 have hs:=h.size;have hb1:b<s.size:=kD4
 have hb2:b<s'.size:=kD4
 have hbyte:=h.byte hb hb1 hb2;unfold zAO at hk he ⊢;rw[kCs hb1] at hk he ⊢;rw[kCs hb2,hbyte];by_cases c2:srt (s[b]'hb1).toNat=2
 ·rw[kAa c2] at he hk ⊢;rw[kAa c2];have e:zBt s' b=zBt s b:=by
   unfold zBt zBc;rw[h.run (kAP hb) (.inr ⟨he,ok_blank kD7⟩)]
  rw[e,h.ext (kAP hb) he]
 ·rw[kA9 c2] at he hk ⊢;rw[kA9 c2];by_cases c4:srt (s[b]'hb1).toNat=4
  ·rw[kAa c4] at he hk ⊢;rw[kAa c4];have e:zBm s' b=zBm s b:=by
    unfold zBm zBc;rw[h.run (kAP hb) (.inr ⟨he,ok_blank kD7⟩)]
   rw[e,h.ext (kAP hb) he]
  ·rw[kA9 c4] at he hk ⊢;rw[kA9 c4];by_cases c5:srt (s[b]'hb1).toNat=5
   ·rw[kAa c5];rw[kAa c5]
   ·rw[kA9 c5] at he hk ⊢;rw[kA9 c5];by_cases c6:(s[b]'hb1).toNat=123∧zAR s b<s.size∧zCe (s.extract (b+1) (zAR s b))=true
    ·rw[kAa c6] at he hk ⊢;simp only at he;have e:zAR s' b=zAR s b:=by
      unfold zAR brk;rw[h.run kD4 (.inl (by unfold zAR brk at he;omega))]
     have hx:s'.extract (b+1) (zAR s b)=s.extract (b+1) (zAR s b):=h.ext kD4 kD4;rw[e,hx,kAa ⟨c6.1,kD4,c6.2.2⟩]
    ·rw[kA9 c6] at hk;exact absurd rfl hk
def zE8 (s:ByteArray):Nat→Nat→Nat
 | 0,a=>a
 | j+1,a=>zE8 s j (zAO s (zAt s a)).2
theorem skip_keep {s s':ByteArray} {p a:Nat} (h:Keep s s' p) (hb:zAt s a<p):zAt s' a=zAt s a:=by
 have ha:a≤zAt s a:=kCR _ _;unfold zAt zBc at *;rw[h.run kD4 (.inl hb)]
theorem good_step {s:ByteArray} {a:Nat} (ha:a≤s.size) {j:Nat} (hj:j+1≤(Tks s a).length) (hg:∀t∈(Tks s a).take (j+1),t.f0≠-1) :
  zAt s a<s.size∧(zAO s (zAt s a)).1.f0≠-1∧Tks s a=(zAO s (zAt s a)).1 :: Tks s (zAO s (zAt s a)).2∧j≤(Tks s (zAO s (zAt s a)).2).length∧(∀t∈(Tks s (zAO s (zAt s a)).2).take j,t.f0≠-1) ∧
  zAt s a<(zAO s (zAt s a)).2∧(zAO s (zAt s a)).2≤s.size:=by
 rw[zCb s a ha] at hj hg ⊢;by_cases hb:zAt s a<s.size
 ·rw[kAa hb] at hj hg ⊢;have hk:(zAO s (zAt s a)).1.f0≠-1:=by
   intro hk;rw[kAa hk] at hg;exact hg (zAO s (zAt s a)).1 kD6 hk
  rw[kA9 hk] at hj hg ⊢;have hm:=zDQ s _ hb hk;refine⟨hb,hk,rfl,by simpa using hj,fun t ht=>hg t ?_,hm.1,hm.2⟩;rw[List.take_succ_cons];exact kAM _ ht
 ·rw[kA9 hb] at hj;simp at hj
theorem end_ge {s:ByteArray}:∀(j a:Nat),a≤s.size→j≤(Tks s a).length→(∀t∈(Tks s a).take j,t.f0≠-1)→a≤zE8 s j a∧zE8 s j a≤s.size:=by
 intro j
 induction j with
 | zero=>intro a ha _ _;exact⟨kA2 _,ha⟩
 | succ j ih =>
  intro a ha hj hg;obtain⟨hb,hk,_,hj2,hg2,hm1,hm2⟩:=good_step ha hj hg;obtain⟨i1,i2⟩:=ih _ hm2 hj2 hg2;have hsk:a≤zAt s a:=kCR _ _;exact⟨by unfold zE8;omega,i2⟩
theorem toks_keep {s s':ByteArray} {p:Nat} (h:Keep s s' p):∀(j a:Nat),a≤s.size→a≤s'.size→j≤(Tks s a).length→(∀t∈(Tks s a).take j,t.f0≠-1)→zE8 s j a≤p→Tks s' a=(Tks s a).take j++Tks s' (zE8 s j a):=by
 intro j
 induction j with
 | zero=>intro a _ _ _ _ _;simp[zE8]
 | succ j ih =>
  intro a ha ha' hj hg he;obtain⟨hb,hk,hT,hj2,hg2,hm1,hm2⟩:=good_step ha hj hg;have hi:=end_ge j _ hm2 hj2 hg2;unfold zE8 at he;have hs:=h.size;have hsk:=skip_keep (a:=a) h kD4;have ht:=tok_keep (b:=zAt s a) h kD4 hk kD4;rw[zCb s' a ha',hsk,kAa kD4,ht,kA9 hk,ih _ hm2 kD4 hj2 hg2 he,hT];rfl
theorem place_at {s:ByteArray}:∀(j a:Nat),a≤s.size→j≤(Tks s a).length→(∀t∈(Tks s a).take j,t.f0≠-1)→Tks s a=(Tks s a).take j++Tks s (zE8 s j a):=fun j a ha hj hg=>by
 have hk:Keep s s s.size:=⟨s.data.toList,[],[],kD6,kD6,rfl,.inl rfl⟩;exact toks_keep hk j a ha ha hj hg (end_ge j a ha hj hg).2
noncomputable def parI (s:ByteArray):RI S31:=zAW (stOf (zA9 s) s.size) chkR ((zA9 s).length+1) ((zA9 s).length+1) 0
theorem parI_of (s:ByteArray):zCS chkR s=mapE (zA9 s) s.size (parI s):=by
 unfold zCS parI;rw[exprI_of]
def Stop (s:ByteArray) (j:Nat):Prop:=parI s=.error j∨∃x,parI s=.ok (x,j)∧zAl x≤j
def zEg (s:ByteArray) (j:Nat):Prop:=j≤(zA9 s).length∧∀t∈(zA9 s).take j,t.f0≠-1
theorem stop_all (s:ByteArray):∃j,Stop s j∧zEg s j:=by
 have h:=expr_fed (stOf (zA9 s) s.size) chkR ((zA9 s).length+1) ((zA9 s).length+1) 0;have key:∀j,Gd (stOf (zA9 s) s.size) 0 j→zEg s j:=fun j hj=>by
  have hle:j≤(zA9 s).length:=by
   by_cases hle:j≤(zA9 s).length
   ·exact hle
   ·exact absurd (by rw[st_end]) (hj (zA9 s).length kD4 kD4)
  refine⟨hle,fun t ht=>?_⟩;obtain⟨i,hi,rfl⟩:=List.mem_iff_getElem.1 ht;rw[kAe] at hi;have h2:=hj i kD4 kD4;rw[st_at _ _ i kD4] at h2;rw[kCG];exact h2
 unfold Stop parI
 cases hr:zAW (stOf (zA9 s) s.size) chkR ((zA9 s).length+1) ((zA9 s).length+1) 0 with
 | error j =>
  rw[hr] at h;exact⟨j,.inl rfl,key j h.2⟩
 | ok p =>
  rw[hr] at h;exact⟨p.2,.inr ⟨p.1,rfl,by have:=h.2.2;omega⟩,key p.2 h.2.1⟩
def plc (s:ByteArray) (j:Nat):Nat:=zAt s (zE8 s j 0)
theorem tks_split {s:ByteArray} {j:Nat} (h:zEg s j):zA9 s=(zA9 s).take j++Tks s (zE8 s j 0):=place_at j 0 (kAI _) h.1 h.2
theorem end_le {s:ByteArray} {j:Nat} (h:zEg s j):zE8 s j 0≤s.size:=(end_ge j 0 (kAI _) h.1 h.2).2
theorem plc_le {s:ByteArray} {j:Nat} (h:zEg s j):plc s j≤s.size:=run_le _ _ _ (end_le h)
theorem rest_at {s:ByteArray} {j:Nat} (h:zEg s j):Tks s (zE8 s j 0)=(zA9 s).drop j:=by
 have h1:=tks_split h;have h2:(zA9 s).take j++Tks s (zE8 s j 0)=(zA9 s).take j++(zA9 s).drop j:=by rw[← h1,kBw]
 exact List.append_cancel_left h2
theorem plc_end {s:ByteArray} {j:Nat} (h:zEg s j) (hj:j=(zA9 s).length):plc s j=s.size:=by
 have h1:=rest_at h;rw[kBq kD4,zCb s _ (end_le h)] at h1;have h2:=plc_le h;unfold plc at *;by_cases hb:zAt s (zE8 s j 0)<s.size
 ·rw[kAa hb] at h1;split at h1<;>cases h1
 ·omega
theorem plc_tok {s:ByteArray} {j:Nat} (h:zEg s j) (hj:j<(zA9 s).length):plc s j<s.size∧(zA9 s)[j]=(zAO s (plc s j)).1:=by
 have h1:=rest_at h;rw[kAp hj,zCb s _ (end_le h)] at h1;unfold plc;by_cases hb:zAt s (zE8 s j 0)<s.size
 ·rw[kAa hb] at h1;refine⟨hb,?_⟩;split at h1
  ·injection h1 with h1 _;exact h1.symm
  ·injection h1 with h1 _;exact h1.symm
 ·rw[kA9 hb] at h1;cases h1
theorem tok_place (s:ByteArray) (b:Nat):(zAO s b).1.f2=b:=by
 unfold zAO
 repeat' split
 all_goals rfl
theorem at_plc {s:ByteArray} {j:Nat} (h:zEg s j):atP (zA9 s) s.size j=plc s j:=by
 unfold atP tokP;by_cases hj:j<(zA9 s).length
 ·rw[kCs hj,(plc_tok h hj).2,tok_place]
 ·rw[dif_neg hj,plc_end h (by have:=h.1;omega)]
theorem place_of {s:ByteArray} {j:Nat} (h:zEg s j) (hs:Stop s j):zCx chkR s=plc s j∨(zCx chkR s=-1∧∃x,zCS chkR s=.ok (x,(zA9 s).length)∧zAl x≤j∧j=(zA9 s).length):=by
 unfold zCx;rcases hs with hs | ⟨x,hs,hx⟩
 ·rw[parI_of,hs];exact .inl (at_plc h)
 ·rw[parI_of,hs];show (if j=(zA9 s).length then (-1:Int) else (tokP (zA9 s) s.size j).f2)=_∨_;by_cases hj:j=(zA9 s).length
  ·rw[kAa hj];exact .inr ⟨by show (if j=(zA9 s).length then (-1:Int) else (tokP (zA9 s) s.size j).f2)=_;rw[kAa hj],x,by rw[← hj];rfl,hx,hj⟩
  ·rw[kA9 hj];exact .inl (at_plc h)
theorem plc_small (s:ByteArray) (h:s.size≤2000):zCx chkR s<0→∃x,zCS chkR s=.ok (x,(zA9 s).length)∧zAl x≤4611686018427387904:=fun hp=>by
 obtain⟨j,h1,h2⟩:=stop_all s;rcases place_of h2 h1 with h3 | ⟨_,x,h3,h4,h5⟩
 ·omega
 ·have:=zCl (s.size+1) s 0;have h6:=h2.1;have e:(zA9 s).length=(zCf (s.size+1) s 0).length:=rfl;exact⟨x,h3,kD4⟩
theorem read_any (s:ByteArray) (h:s.size≤2000) (w:World) (hS:Start w):Calls Tryz.prog 18 #[.string s] w (zE3 chkR s w):=ReadExpr2 chkR s (readT_all s h) w hS (plc_small s h)
theorem srt_dig {c:UInt8} (h:srt (c.toNat:Int)=4):digC c=true:=by
 unfold srt at h;unfold digC;by_cases h1:(c.toNat:Int)=32
 ·rw[kAa h1] at h;cases h
 rw[kA9 h1] at h;by_cases h2:97≤(c.toNat:Int)∧(c.toNat:Int)≤122
 ·rw[kAa h2] at h;cases h
 rw[kA9 h2] at h;by_cases h3:65≤(c.toNat:Int)∧(c.toNat:Int)≤90
 ·rw[kAa h3] at h;cases h
 rw[kA9 h3] at h;by_cases h4:48≤(c.toNat:Int)∧(c.toNat:Int)≤57
 ·rw[kA8 kD4,kA8 kD4];rfl
 ·rw[kA9 h4] at h;split at h<;>cases h
theorem num_form (s:ByteArray) (b:Nat) (hb:b<s.size) (h4:srt (s[b]'hb).toNat=4) (hk:((s[b]'hb).toNat≠48∨(s.extract b (zBm s b)).size=1)∧(s.extract b (zBm s b)).size≤400) :
  zCp (s.extract b (zBm s b))=true∧negB (s.extract b (zBm s b))=false∧(s.extract b (zBm s b)).size≤400:=by
 have hr:=run_step (ks:=[4]) hb (by rw[h4];rfl);have hle:=run_le [4] s b kD4;have hx:(s.extract b (zBm s b)).data.toList=(zAu s b).takeWhile (okC [4]):=by
  rw[kBj];unfold zBm;rw[Nat.add_sub_cancel_left];show (zAu s b).take (zBc [4] (zAu s b))=_;unfold zBc;exact List.prefix_iff_eq_take.1 (List.takeWhile_prefix _) |>.symm
 have hall:(s.extract b (zBm s b)).data.toList.all digC=true:=by
  rw[hx,kBo];intro c hc;have:=kBo.1 List.all_takeWhile c hc;unfold okC at this;exact srt_dig (by simpa using this)
 have hd:(s.extract b (zBm s b)).data.toList=s[b]'hb :: (zAu s (b+1)).takeWhile (okC [4]):=by
  rw[hx];unfold zAu;rw[kAp (show b<s.data.toList.length from hb),kB0,kAa (by unfold okC;show ([4]:List Int).contains (srt (s[b]'hb).toNat)=true;rw[h4];rfl)];rfl
 generalize s.extract b (zBm s b)=x at *;have hc:digC (s[b]'hb)=true:=by rw[hd,List.all_cons,kAo] at hall;exact hall.1
 have hneg:negB x=false:=by
  unfold negB;rw[hd];simp only;rw[kAd];intro e;rw[e] at hc;exact absurd hc kD7
 have ht:zBr x=x:=by unfold zBr;rw[hneg];rfl
 have hsz:0<x.size:=by show 0<x.data.toList.length;rw[hd];simp
 refine⟨?_,hneg,hk.2⟩;unfold zCp;rw[ht,hall,kA8 hsz,kCC,Bool.and_true,Bool.not_eq_true']
 cases hz:zD3 x with
 | false=>rfl
 | true =>
  unfold zD3 at hz;rw[ht,hd] at hz;simp only at hz;have h1:x.size=1:=by
   rcases hk.1 with h | h
   ·exact absurd (by rw[kAA] at hz;rw[hz];rfl) h
   ·exact h
  rw[h1];rfl
theorem tk_at (s:ByteArray) (b:Nat) (hb:b<s.size):TkOk (kt (zAO s b).1):=by
 unfold zAO;rw[kCs hb];by_cases h2:srt (s[b]'hb).toNat=2
 ·rw[kAa h2];generalize s.extract b (zBt s b)=x;unfold zC8 kt
  cases hw:zE4 x with
  | true=>exact⟨fun h=>by simp at h,fun h=>by simp at h,fun h=>by simp at h⟩
  | false =>
   cases hn:zBQ x with
   | true=>exact⟨fun _=>hn,fun h=>by simp at h,fun h=>by simp at h⟩
   | false=>exact⟨fun h=>by simp at h,fun h=>by simp at h,fun h=>by simp at h⟩
 rw[kA9 h2];by_cases h4:srt (s[b]'hb).toNat=4
 ·rw[kAa h4];have hf:=num_form s b hb h4;unfold zF0 kt;by_cases hk:((s[b]'hb).toNat≠48∨(s.extract b (zBm s b)).size=1)∧(s.extract b (zBm s b)).size≤400
  ·refine⟨fun h=>?_,fun _=>hf hk,fun h=>?_⟩
   ·simp only[kAa hk] at h;exact absurd h kD7
   ·simp only[kAa hk] at h;exact absurd h kD7
  ·refine⟨fun h=>?_,fun h=>?_,fun h=>?_⟩<;>(simp only[kA9 hk] at h;exact absurd h kD7)
 rw[kA9 h4];by_cases h5:srt (s[b]'hb).toNat=5
 ·rw[kAa h5];exact⟨fun h=>absurd h (show ¬(4:Int)=0 by decide),fun h=>absurd h (show ¬(4:Int)=2 by decide),fun h=>absurd h (show ¬(4:Int)=3 by decide)⟩
 rw[kA9 h5];by_cases h3:(s[b]'hb).toNat=123∧zAR s b<s.size∧zCe (s.extract (b+1) (zAR s b))=true
 ·rw[kAa h3];exact⟨fun h=>absurd h (show ¬(3:Int)=0 by decide),fun h=>absurd h (show ¬(3:Int)=2 by decide),fun _=>h3.2.2⟩
 ·rw[kA9 h3];exact⟨fun h=>absurd h (show ¬(-1:Int)=0 by decide),fun h=>absurd h (show ¬(-1:Int)=2 by decide),fun h=>absurd h (show ¬(-1:Int)=3 by decide)⟩
theorem tk_all (s:ByteArray) (n:Nat):TkOk (stOf (zA9 s) s.size n):=by
 by_cases h:n<(zA9 s).length
 ·rw[st_at _ _ n h];exact toksF_all (fun t=>TkOk (kt t)) s (fun b hb=>tk_at s b hb) _ _ _ (kAC h)
 ·unfold stOf tokP;rw[dif_neg h];exact⟨fun h=>absurd h (show ¬(-1:Int)=0 by decide),fun h=>absurd h (show ¬(-1:Int)=2 by decide),fun h=>absurd h (show ¬(-1:Int)=3 by decide)⟩
theorem parse_ok {s:ByteArray} {x:S31} {n:Nat} (h:zCS chkR s=.ok (x,n)):OkX x:=by
 rw[parI_of] at h;have hg:=gives_expr (tk_all s) (L:=(zA9 s).length+1) ((zA9 s).length+1) 0;unfold parI at h
 cases hr:zAW (stOf (zA9 s) s.size) chkR ((zA9 s).length+1) ((zA9 s).length+1) 0 with
 | error j=>rw[hr] at h;cases h
 | ok p =>
  rw[hr] at h;obtain⟨y,m⟩:=p;injection h with h;injection h with h1 h2;rw[← h1];exact hg y m hr
end Go.Proofs.YtjaobihcdkjmbaaGreatDoor
end
section
namespace Go.Proofs.YtjaobihcdkjmbaaGreatDoor
open Go.RowKit Go.Maps Go.Proofs.YtjaobihcdkjmbaaGreatDoorW.PrintWords Go.Proofs.YtjaobihcdkjmbaaGreatDoor.PReadTokens
theorem readS_at {s:ByteArray} {q:Nat} (h:zCx chkR s=q):zDx chkR s=(z31,(q:Int),1):=by
 unfold zDx;rw[h,kAa kD4]
theorem ex_agg {w:World} {S:Nat→Prop} {x:S31} {v5:Value} (h:Ex w S x (exV x v5)):∃A n c,v5=.slice A n c:=by
 obtain⟨v,A,n,c,h1,rfl,_⟩:=h.cells;unfold exV at h1;injection h1 with h1;simp at h1;exact⟨A,n,c,h1⟩
end Go.Proofs.YtjaobihcdkjmbaaGreatDoor
end
