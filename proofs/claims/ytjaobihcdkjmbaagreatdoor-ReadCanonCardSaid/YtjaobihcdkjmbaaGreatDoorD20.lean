/- What can be read as an expression is printed as a text that reads as the same, and is printed as itself: for every argument; a part of its proof. -/
import Derived.Test.YtjaobihcdkjmbaaGreatDoorDa
import Derived.Test.YtjaobihcdkjmbaaGreatDoorDb
import Derived.Test.YtjaobihcdkjmbaaGreatDoorD0
import Derived.Test.YtjaobihcdkjmbaaGreatDoorD1
import Derived.Test.YtjaobihcdkjmbaaGreatDoorD7
import Derived.Test.YtjaobihcdkjmbaaGreatDoorD9
import Derived.Test.YtjaobihcdkjmbaaGreatDoorD11
import Derived.Test.YtjaobihcdkjmbaaGreatDoorD13
import Derived.Test.YtjaobihcdkjmbaaGreatDoorD16
import Derived.Test.YtjaobihcdkjmbaaGreatDoorD17
import Derived.Test.YtjaobihcdkjmbaaGreatDoorD19
set_option linter.unusedVariables false
set_option linter.unusedSimpArgs false
namespace Go.Proofs.YtjaobihcdkjmbaaGreatDoor.PReadTokens
end Go.Proofs.YtjaobihcdkjmbaaGreatDoor.PReadTokens
namespace Go.Proofs.YtjaobihcdkjmbaaGreatDoorW.PrintLast
end Go.Proofs.YtjaobihcdkjmbaaGreatDoorW.PrintLast
namespace Go.Proofs.YtjaobihcdkjmbaaGreatDoorW.PrintMore
end Go.Proofs.YtjaobihcdkjmbaaGreatDoorW.PrintMore
namespace Go.Proofs.YtjaobihcdkjmbaaGreatDoorW.PrintWords
end Go.Proofs.YtjaobihcdkjmbaaGreatDoorW.PrintWords
set_option maxRecDepth 100000
set_option maxHeartbeats 8000000
section
namespace Go.Proofs.YtjaobihcdkjmbaaGreatDoor
open Go.RowKit Go.Proofs.YtjaobihcdkjmbaaGreatDoorW.PrintWords Go.Proofs.YtjaobihcdkjmbaaGreatDoor.PReadTokens
structure Vw (w:World) (x:S31) (v:Value):Prop where
 out:∃A c,v=exV x (.slice A x.f4.length c)∧x.f4.length≤c∧k31.C w A x.f4.length x.f4
theorem Vw.below {w w1:World} {x:S31} {v:Value} (h:Vw w x v) (hb:Below w.heap.size w w1):Vw w1 x v:=by
 obtain⟨A,c,h1,h2,h3⟩:=h.out;exact⟨A,c,h1,h2,Kd.C_below h3 hb⟩
theorem Ex.vw {w:World} {S:Nat→Prop} {x:S31} {v:Value} (h:Ex w S x v):Vw w x v:=by
 obtain⟨v5,h1,h2⟩:=h.out;obtain⟨A,c,rfl,h3,h4⟩:=Kd.R_reads h2;exact⟨A,c,h1,h3,h4⟩
mutual
def zAl:S31→Nat
 | ⟨_,_,_,_,l⟩=>zAy l+1
def zAy:List S31→Nat
 | []=>0
 | x :: l=>zAl x+zAy l
end
mutual
def zAI:S31→Nat
 | ⟨_,_,_,_,l⟩=>zBi l+1
def zBi:List S31→Nat
 | []=>0
 | x :: l=>max (zAI x) (zBi l)
end
theorem zB3 (x:S31):zAl x=zAy x.f4+1:=by cases x;rfl
theorem zAw (x:S31):zAI x=zBi x.f4+1:=by cases x;rfl
theorem zDp (l m:List S31):zAy (l++m)=zAy l+zAy m:=by
 induction l with
 | nil=>simp[zAy]
 | cons x l ih=>simp only[List.cons_append,zAy,ih];omega
theorem zEN (l m:List S31):zBi (l++m)=max (zBi l) (zBi m):=by
 induction l with
 | nil=>simp[zBi]
 | cons x l ih=>simp only[List.cons_append,zBi,ih];omega
theorem zCH {α:Type} (l:List α) (j:Nat) (h:j<l.length):l.take (j+1)=l.take j++[l[j]]:=by rw[kBv h]
theorem zFU (l:List S31) (j:Nat) (h:j<l.length):zAy (l.take (j+1))=zAy (l.take j)+zAl l[j]:=by
 rw[zCH l j h,zDp];simp[zAy]
theorem depthL_take (l:List S31) (j:Nat) (h:j<l.length):zBi (l.take (j+1))=max (zBi (l.take j)) (zAI l[j]):=by
 rw[zCH l j h,zEN];simp[zBi]
theorem zBh {x:S31} {l:List S31} (h:x∈l):zAI x≤zBi l:=by
 induction l with
 | nil=>simp at h
 | cons y l ih =>
  simp only[zBi];rcases kAO.1 h with rfl | h
  ·omega
  ·have:=ih h;omega
theorem zCB (l:List S31):l.length≤zAy l:=by
 induction l with
 | nil=>exact kAI _
 | cons y l ih=>simp only[zAy,List.length_cons,zB3];omega
theorem zDh {x:S31} {l:List S31} (h:x∈l):zAl x≤zAy l:=by
 induction l with
 | nil=>simp at h
 | cons y l ih =>
  simp only[zAy];rcases kAO.1 h with rfl | h
  ·omega
  ·have:=ih h;omega
theorem zEf (l:List S31) (j:Nat):zAy (l.take j)≤zAy l:=by
 have:=zDp (l.take j) (l.drop j);rw[kBw] at this;omega
theorem depthL_take_le (l:List S31) (j:Nat):zBi (l.take j)≤zBi l:=by
 have:=zEN (l.take j) (l.drop j);rw[kBw] at this;omega
theorem depth_nodesL:∀n,(∀x:S31,zAI x≤n→zAI x≤zAl x)∧(∀l:List S31,zBi l≤n→zBi l≤zAy l):=by
 have base:∀n,(∀x:S31,zAI x≤n→zAI x≤zAl x)→(∀l:List S31,zBi l≤n→zBi l≤zAy l):=by
  intro n hx l
  induction l with
  | nil=>intro _;simp[zBi]
  | cons y l ih =>
   simp only[zBi,zAy];intro h;have h1:=hx y kD4;have h2:=ih kD4;omega
 intro n
 induction n with
 | zero =>
  have hx:∀x:S31,zAI x≤0→zAI x≤zAl x:=fun x h=>by rw[zAw] at h;omega
  exact⟨hx,base 0 hx⟩
 | succ n ih =>
  have hx:∀x:S31,zAI x≤n+1→zAI x≤zAl x:=fun x h=>by
   rw[zAw] at h⊢;rw[zB3];have:=ih.2 x.f4 kD4;omega
  exact⟨hx,base (n+1) hx⟩
theorem zAh {w:World} {A:Option Addr} {xs:List S31} (h:k31.C w A xs.length xs) (j:Nat) (hj:j<xs.length) :
  ∃ad A5 c5,A=some ad∧w.cell? (ad.add (j*6))=some (.int .i64 (xs[j]).f0)∧w.cell? ⟨(ad.add (j*6)).block,(ad.add (j*6)).off+1,none⟩=some (.string (xs[j]).f1.f0) ∧
   w.cell? ⟨(ad.add (j*6)).block,(ad.add (j*6)).off+2,none⟩=some (.string (xs[j]).f1.f1)∧w.cell? ⟨(ad.add (j*6)).block,(ad.add (j*6)).off+3,none⟩=some (.string (xs[j]).f2) ∧
   w.cell? ⟨(ad.add (j*6)).block,(ad.add (j*6)).off+4,none⟩=some (.int .i64 (xs[j]).f3)∧w.cell? ⟨(ad.add (j*6)).block,(ad.add (j*6)).off+5,none⟩=some (.slice A5 (xs[j]).f4.length c5) ∧
   Vw w xs[j] (exV xs[j] (.slice A5 (xs[j]).f4.length c5)):=by
 have h1:=at_T31 h (j:Int) kD4 kD4;have e:zDI xs (j:Int)=xs[j]:=by unfold zDI;simp[List.getD,hj]
 rw[e] at h1;obtain⟨ad,A5,c5,h2,h3,h4,h5,h6,h7,h8,h9,h10⟩:=h1;exact⟨ad,A5,c5,h2,h3,h4,h5,h6,h7,h8,⟨A5,c5,rfl,h9,h10⟩⟩
theorem most_add (g:Nat) (a b:Int) (w:World) (hg:w.heap[g]?=some (.cells #[.int .i64 a] 144 (0,0))) :
  Calls Tryz.prog 95 #[.pointer (some ⟨g,0,none⟩),.int .i64 b] w fun e w'=>e=.returned (.tuple #[])∧w'.heap[g]?=some (.cells #[.int .i64 (max a b)] 144 (0,0))∧w.grownBy w' (some g):=by
 have c0:=zA1 hg 0;have f0:=zA2 hg 0;have HG:=kA1 hg;clear hg;go_enter Tryz.func95,Tryz.ntmps95;go_wp2;refine kBf (kB4 rfl _ _ _) rfl ⟨rfl,?_,?_⟩
 ·exact zA8 HG.out 0 _
 ·exact kAf _ _ _ _
structure DeepAt (w:World) (xs:List S31) (j:Nat) (wr:World):Prop where
 res:wr.heap[w.heap.size+1]?=some (.cells #[.int .i64 0,.int .i64 0] 100 (0,0))
 out:wr.heap[w.heap.size+1+1]?=some (.cells #[.int .i64 (1+zAy (xs.take j):Nat),.int .i64 0] 100 (0,0))
 most:wr.heap[w.heap.size+1+1+1]?=some (.cells #[.int .i64 (zBi (xs.take j))] 144 (0,0))
 below:Below w.heap.size w wr
theorem DeepAt.go {w:World} {xs:List S31} {j:Nat} {wr w1:World} (h:DeepAt w xs j wr) (hb:Below wr.heap.size wr w1):DeepAt w xs j w1 :=
 ⟨zAa hb h.res,zAa hb h.out,zAa hb h.most,h.below.trans (hb.mono h.below.size)⟩
theorem zCL {j g n:Nat} (h:j+g=n) (hl:j<n):j+1+(g-1)=n:=kD4
theorem size100:(Tryz.prog.info? 100).map (·.size)=some 2:=kD5
theorem deep_calls:∀(n:Nat) (x:S31),zAI x≤n→zAl x≤4611686018427387904→∀(v:Value) (w:World),Vw w x v →
  Calls Tryz.prog 57 #[v] w fun e w'=>e=.returned (.agg #[.int .i64 (zAl x),.int .i64 (zAI x)])∧Below w.heap.size w w':=by
 intro n
 induction n with
 | zero=>intro x h;rw[zAw] at h;omega
 | succ n ih =>
  intro x hd hn v w hv;obtain⟨A,c,rfl,hc1,hc2⟩:=hv.out;rw[zAw] at hd;rw[zB3] at hn;have hrec:∀(j:Nat) (hj:j<x.f4.length) v w,Vw w x.f4[j] v→Calls Tryz.prog 57 #[v] w fun e w'=>e=.returned (.agg #[.int .i64 (zAl x.f4[j]),.int .i64 (zAI x.f4[j])])∧Below w.heap.size w w':=by
   intro j hj;have h1:=zBh (kAC hj);have h2:=zDh (kAC hj);exact ih _ kD4 kD4
  rw[zB3,zAw];have hnt:=zFU x.f4;have hdt:=depthL_take x.f4;have hnl:=zEf x.f4;have hdl:=depthL_take_le x.f4;have hdn:zBi x.f4≤zAy x.f4:=(depth_nodesL (zBi x.f4)).2 _ (kA2 _);have hlen:=zCB x.f4;have htk:x.f4.take x.f4.length=x.f4:=kB6;obtain⟨f0,f1,f2,f3,xs⟩:=x;simp only at *;clear ih hv;unfold exV;simp only;have HR:=kA1 hrec;have HN:=kA1 hnt;have HD:=kA1 hdt;have HNL:=kA1 hnl;have HDL:=kA1 hdl;have HT:=kA1 htk;have HC:=kA1 hc2;clear hrec hnt hdt hnl hdl htk hc2;go_enter Tryz.func57,Tryz.ntmps57;go_wp2;have hat:DeepAt w xs 0 ((((w.alloc (.cells #[.int .i64 f0,.string f1.f0,.string f1.f1,.string f2,.int .i64 f3,.slice A xs.length c] 31)).alloc (.cells #[.int .i64 0,.int .i64 0] 100)).alloc (.cells #[.int .i64 1,.int .i64 0] 100)).alloc (.cells #[.int .i64 0] 144)):=by
   refine⟨?_,?_,zAD _ _ _ kD6,(((((kA3 _ w).alloc (kA2 _) _).alloc kD6 _).alloc kD8 _).alloc kD8 _)⟩
   ·exact (kA4 _ _ _ kDi).trans ((kA4 _ _ _ kD6).trans (zAD _ _ _ kD6))
   ·exact (kA4 _ _ _ kDi).trans (zAD _ _ _ kD6)
  generalize (((w.alloc (.cells #[.int .i64 f0,.string f1.f0,.string f1.f1,.string f2,.int .i64 f3,.slice A xs.length c] 31)).alloc (.cells #[.int .i64 0,.int .i64 0] 100)).alloc (.cells #[.int .i64 1,.int .i64 0] 100)).alloc (.cells #[.int .i64 0] 144)=W0 at *;go_loopg [12] xs.length (fun k i wr=>∃j:Nat,j+k=xs.length∧i=.int .i64 j∧DeepAt w xs j wr)
  case atStart=>exact⟨0,kD4,rfl,hat⟩
  case round =>
   clear hat;obtain⟨j,hj,rfl,hat⟩:=hrel;by_cases hjl:j<xs.length
   ·obtain⟨ad,A5,c5,rfl,q0,q1,q2,q3,q4,q5,hvw⟩:=zAh (Kd.C_below HC.out hat.below) j hjl;have hr:=HR.out j hjl;have hn1:=HN.out j hjl;have hd1:=HD.out j hjl;have hn2:=HNL.out (j+1);generalize xs[j]=y at *;have Hvw:=kA1 hvw;clear hvw;go_wp2_with fail;refine (hr _ _ (Hvw.out.below ((kA3 _ _).alloc (kA2 _) _))).mono ?_;rintro e w1 ⟨rfl,hb1⟩;have hat1:=hat.go (((kA3 _ _).alloc (kA2 _) _).trans (hb1.mono kD6));have o0:=zA1 hat1.out 0;have o1:=zA2 hat1.out 0;have ol:=zA5 hat1.out;have ml:=zA5 hat1.most;have hsum:((1+zAy (xs.take j):Nat):Int)+(zAl y:Int)≤4611686018427387904:=kD4
    have Hat:=kA1 hat1;clear hat hat1 hr;go_wp2_with fail;have hmost:((w1.setCell ⟨w.heap.size+1+1,0,none⟩ (.int .i64 (1+↑(zAy (List.take j xs))+↑(zAl y)))).alloc (.cells #[.int .i64 (zAl y),.int .i64 (zAI y)] 100)).heap[w.heap.size+1+1+1]?=some (.cells #[.int .i64 (zBi (xs.take j))] 144 (0,0)) :=
     (kA4 _ _ _ kD8).trans ((kA5 _ _ _ _ kD6).trans Hat.out.most)
    refine (most_add _ _ _ _ hmost).mono ?_;rintro e w2 ⟨rfl,hm2,hg2⟩;have out2:=(hg2.block (w.heap.size+1+1) kD8 kDa).trans ((kA4 _ _ _ kD8).trans (zA8 Hat.out.out 0 (.int .i64 (1+↑(zAy (List.take j xs))+↑(zAl y)))));have res2:=(hg2.block (w.heap.size+1) kD8 kDa).trans ((kA4 _ _ _ kD8).trans ((kA5 _ _ _ _ kD6).trans Hat.out.res));have bel2:=((Hat.out.below.setCell (p:=⟨w.heap.size+1+1,0,none⟩) kD8 (.int .i64 (1+↑(zAy (List.take j xs))+↑(zAl y)))).alloc kD8 (.cells #[.int .i64 (zAl y),.int .i64 (zAI y)] 100)).grown hg2 kD8 (fun k e=>by injection e with e;omega);have hat2:DeepAt w xs (j+1) w2:=by
     refine⟨res2,?_,?_,bel2⟩
     ·rw[hn1,out2];congr 3;simp;omega
     ·rw[hd1,hm2];congr 3;simp;omega
    clear hmost hm2 hg2 out2 res2 bel2;go_wp2;go_roundg (gk-1)
    case measure=>omega
    case rel=>exact⟨j+1,zCL hj hjl,by go_num,hat2⟩
   ·obtain rfl:j=xs.length:=kD4
    have m0:=zA1 hat.most 0;have o0:=zA1 hat.out 0;have o1:=zA1 hat.out 1;have e1:=zA2 hat.out 1;have s0:=zA1 hat.res 0;have s1:=zA1 hat.res 1;have r0:=zA2 hat.res 0;have r1:=zA2 hat.res 1;have Hat:=kA1 hat;clear hat;go_wp2;have fin:(((wr.setCell ⟨w.heap.size+1+1,1,none⟩ (.int .i64 (↑(zBi xs)+1))).setCell ⟨w.heap.size+1,0,none⟩ (.int .i64 (1+↑(zAy xs)))).setCell ⟨w.heap.size+1,1,none⟩ (.int .i64 (↑(zBi xs)+1))).heap[w.heap.size+1]?=some (.cells #[.int .i64 (1+↑(zAy xs)),.int .i64 (↑(zBi xs)+1)] 100 (0,0)) :=
     zA8 (zA8 ((kA5 _ _ _ _ kD6).trans Hat.out.res) 0 _) 1 _
    refine kAi (zAg Tryz.results57 _ _ (w.heap.size+1) 100 _ (0,0) _ rfl fin Tryz.underlying100 rfl size100) rfl ⟨?_,((Hat.out.below.setCell (p:=⟨w.heap.size+1+1,1,none⟩) kD8 _).setCell (p:=⟨w.heap.size+1,0,none⟩) kD6 _).setCell (p:=⟨w.heap.size+1,1,none⟩) kD6 _⟩;congr 4
    ·congr 1;simp;omega
theorem wp_scope_again {P:Program} {a:Act} {w:World} {Q:Exit→Act→World→Prop} {x rest:Code} (l:Nat) (J:Nat→Act→World→Prop) (n0:Nat) (hf:findLabel (x.seq ((Code.label l).seq rest)) l=some (Code.skip.seq rest))
  (pass:∀k a w,J k a w→rest.wp P (Exit.jump l (fun a' w'=>∃k',k'<k∧J k' a' w') Q) a w)
  (first:x.wp P (Exit.then (fun a w=>J n0 a w) (Exit.jump l (fun _ _=>False) Q)) a w):(Code.scope (x.seq ((Code.label l).seq rest))).wp P Q a w:=by
 have all:(x.seq ((Code.label l).seq rest)).wp P (Exit.jump l (fun a w=>∃k,J k a w) Q) a w:=by
  refine wp_seq (Code.wp_mono ?_ first);intro e a w h
  cases e with
  | normal =>
   refine wp_seq (wp_label ?_);refine Code.wp_mono ?_ (pass n0 a w h);intro e a w h
   cases e with
   | goto l'=>exact⟨h.1,by obtain⟨_,k',_,hk⟩:=h;exact⟨k',hk⟩⟩
   | _=>exact h
  | goto l'=>exact (h.2:False).elim
  | _=>exact h
 intro b k cs;have hg:gotoIn l (.inScope (x.seq ((Code.label l).seq rest)) :: k)=some (.code (Code.skip.seq rest) :: .inScope (x.seq ((Code.label l).seq rest)) :: k):=by simp[gotoIn,hf]
 have key:∀n a w,J n a w→∃e a' w',Q e a' w'∧Arrives P (lone (b.at a (.code (Code.skip.seq rest) :: .inScope (x.seq ((Code.label l).seq rest)) :: k)) cs w) b k cs e a' w':=by
  intro n
  induction n using Nat.strongRecOn with
  | _ n ih =>
   intro a w hJ;have hw:(Code.skip.seq rest).wp P (Exit.jump l (fun a' w'=>∃k',k'<n∧J k' a' w') Q) a w:=wp_seq (wp_skip (pass n a w hJ));obtain⟨e,a₁,w₁,hq,harr⟩:=hw b (.inScope (x.seq ((Code.label l).seq rest)) :: k) cs
   cases e with
   | normal=>exact⟨.normal,a₁,w₁,hq,Steps.trans harr (.one step_inScope)⟩
   | exit id=>exact⟨.exit id,a₁,w₁,hq,fun k' hk=>harr k' (by simp[exitTo,hk])⟩
   | goto l' =>
    obtain⟨rfl,k',hlt,hJ'⟩:=hq;obtain⟨e₂,a₂,w₂,hq₂,harr₂⟩:=ih k' hlt a₁ w₁ hJ';exact⟨e₂,a₂,w₂,hq₂,.of_steps (harr _ hg) harr₂⟩
   | ret=>exact⟨_,a₁,w₁,hq,harr⟩
   | panic ch=>exact⟨_,a₁,w₁,hq,harr⟩
   | outgrown=>exact⟨_,a₁,w₁,hq,harr⟩
 obtain⟨e,a₁,w₁,hq,harr⟩:=all b (.inScope (x.seq ((Code.label l).seq rest)) :: k) cs
 cases e with
 | normal=>exact⟨.normal,a₁,w₁,hq,.head kD3 (Steps.trans harr (.one step_inScope))⟩
 | exit id=>exact⟨.exit id,a₁,w₁,hq,fun k' hk=>.head kD3 (harr k' (by simp[exitTo,hk]))⟩
 | goto l' =>
  obtain⟨rfl,k',hJ'⟩:=hq;obtain⟨e₂,a₂,w₂,hq₂,harr₂⟩:=key k' a₁ w₁ hJ';exact⟨e₂,a₂,w₂,hq₂,.of_steps (.head kD3 (harr _ hg)) harr₂⟩
 | ret=>exact⟨_,a₁,w₁,hq,.of_steps (.one kD3) harr⟩
 | panic ch=>exact⟨_,a₁,w₁,hq,.of_steps (.one kD3) harr⟩
 | outgrown=>exact⟨_,a₁,w₁,hq,.of_steps (.one kD3) harr⟩
theorem zFI {w:World} {S:Nat→Prop} {v:Value} {xs:List S31} (h:k31.R 31 w 0 S v xs) :
  ∃ao cap inner,v=.slice ao xs.length cap∧xs.length≤cap∧(ao=none→xs.length=0∧cap=0)∧inner.length=xs.length*6∧(∀b,ao=some b→∀j u,inner[j]?=some u→w.cell? (b.add j)=some u)∧Reps (k31.M w 0 S) 6 xs inner:=by
 obtain⟨h0,inner,ho,hr⟩:=h;have hr':Reps (k31.M w 0 S) 6 xs inner:=hr.imp_ (fun _ _ hp=>k31.M_mono (fun k hk=>hk.1) hp);obtain⟨hlen,⟨rfl,hn⟩ | ⟨g,cap,cur,rfl,_,_,hcap,_,_,_⟩⟩:=id ho
 ·refine⟨none,0,inner,by rw[hn],kD4,fun _=>⟨hn,rfl⟩,hlen,fun b hb=>(by cases hb),hr'⟩
 ·refine⟨_,cap,inner,rfl,hcap,fun hb=>(by cases hb),hlen,fun b hb j u hu=>?_,hr'⟩;injection hb with hb;subst hb;exact kCu ho (g:=g) rfl j u hu
theorem row_append {w w':World} {S:Nat→Prop} {v' v5:Value} {acc:List S31} {x:S31} {inner:List Value} (hr:Reps (k31.M w 0 S) 6 acc inner) (hx:Ex w S x (exV x v5)) (hS:∀k,w.heap.size≤k→S k)
  (ho:w'.ownsRow w.heap.size 31 6 v' (acc.length+1) (inner++[.int .i64 x.f0,.string x.f1.f0,.string x.f1.f1,.string x.f2,.int .i64 x.f3,v5])) (hg:w.grownBy w' none):k31.R 31 w' 0 S v' (acc++[x]):=by
 obtain⟨u,_,_,_,h1,_,_,hM⟩:=hx.cells;obtain rfl:=zCu h1;have hall:=hr.snoc hM rfl;refine⟨fun k hk=>hS k (zEG ho k hk),_,?_,hall.imp_ (fun y c hy=>?_)⟩
 ·rw[kAt,List.length_singleton];exact zDU ho (kAI _)
 ·have h1:=k31.M_bound hy;have h2:=k31.M_move (w1:=w') (fun k hk=>hg.block k hk.2.2.1 (fun e=>by cases e)) h1;exact k31.M_mono (fun k hk=>⟨hk.1,fun e=>by have:=zEG ho k e.symm;have:=hk.2.2.1;omega⟩) h2
theorem list_facts {w2:World} {S:Nat→Prop} {ao:Option Addr} {n cap:Nat} {acc:List S31} (h:k31.R 31 w2 0 S (.slice ao n cap) acc) (h8:acc.length<8) (x:S31) (v5:Value) (h1:v5.oneCell'=true) :
  ∃inner:List Value,inner.length=acc.length*6 ∧
   (∀b,ao=some b→∀j u,inner[j]?=some u→(w2.alloc (.cells #[.int .i64 x.f0,.string x.f1.f0,.string x.f1.f1,.string x.f2,.int .i64 x.f3,v5] 31)).cell? (b.add j)=some u) ∧
   (∀j u,[.int .i64 x.f0,.string x.f1.f0,.string x.f1.f1,.string x.f2,.int .i64 x.f3,v5][j]?=some u→(w2.alloc (.cells #[.int .i64 x.f0,.string x.f1.f0,.string x.f1.f1,.string x.f2,.int .i64 x.f3,v5] 31)).cell? ((⟨w2.heap.size,0,none⟩:Addr).add j)=some u) ∧
   (∀u ∈ [.int .i64 x.f0,.string x.f1.f0,.string x.f1.f1,.string x.f2,.int .i64 x.f3,v5],u.oneCell'=true) ∧
   (ao=none→acc.length=0∧acc.length=0)∧acc.length+1≤maxLen∧(acc.length+1)*88≤140737488355328∧Reps (k31.M (w2.alloc (.cells #[.int .i64 x.f0,.string x.f1.f0,.string x.f1.f1,.string x.f2,.int .i64 x.f3,v5] 31)) 0 S) 6 acc inner:=by
 obtain⟨ao',cap',inner,he,hcap,hao,hin,hol,hrep⟩:=zFI h;injection he with he1 he2 he3;subst he1;refine⟨inner,hin,fun b hb j u hu=>?_,fun j u hu=>?_,fun u hu=>?_,fun hb=>⟨(hao hb).1,(hao hb).1⟩,by simp only[maxLen];omega,kD4,hrep.imp_ (fun _ _ hp=>Kd.M_below hp ((kA3 _ _).alloc (kA2 _) _))⟩
 ·have:=hol b hb j u hu;rw[kBC _ _ _ (kAJ w2 _ this)];exact this
 ·have hn:=zA4 w2 (.cells #[.int .i64 x.f0,.string x.f1.f0,.string x.f1.f1,.string x.f2,.int .i64 x.f3,v5] 31);have hj:j<6:=by
   have:=kAW.1 hu;obtain⟨h,_⟩:=this;exact h
  rw[zBU];have e:=zA1 hn j
  try simp only[kAv]
  rw[e];rw[← hu];simp
 ·simp only[kAO,kBc,kCm] at hu;rcases hu with rfl | rfl | rfl | rfl | rfl | rfl
  all_goals first | rfl | exact h1
def zDt (w:World) (R:Nat) (ts:List S47) (en now:Nat):Except Int (List S31×Nat)→Ending→World→Prop
 | .ok (xs,n),e,w'=>now<n∧n≤ts.length∧∃v,e=.returned v∧k31.R 31 w' 0 (From w.heap.size) v xs∧Took w R ts n en w'
 | .error p,e,w'=>e=zAm p∧w.grownBy w' (some R)
structure Gat (W0:World) (R B:Nat) (ts:List S47) (en:Nat) (w wr:World) (acc:List S31) (n:Nat) (v:Value):Prop where
 st:St W0 R B ts en n wr
 took:Took w R ts n en wr
 val:k31.R 31 wr 0 (From w.heap.size) v acc
theorem Gat.below {W0:World} {R B:Nat} {ts:List S47} {en:Nat} {w wr w1:World} {acc:List S31} {n:Nat} {v:Value} (G:Gat W0 R B ts en w wr acc n v) (hb:Below wr.heap.size wr w1):Gat W0 R B ts en w w1 acc n v :=
 ⟨G.st.below hb,G.took.below hb,Kd.R_below G.val hb⟩
theorem Gat.go {W0:World} {R B:Nat} {ts:List S47} {en:Nat} {w wr w1:World} {acc:List S31} {n n1:Nat} {v:Value} (E:Env W0 R B ts) (hR:R<w.heap.size) (G:Gat W0 R B ts en w wr acc n v) (k:Took wr R ts n1 en w1) (hn:n1≤ts.length):Gat W0 R B ts en w w1 acc n1 v :=
 ⟨G.st.took E k hn,G.took.trans k,Kd.R_grown G.val k.grown (fun j hj e=>by injection e with e;simp only[From] at hj;omega)⟩
theorem info31:(Tryz.prog.info? 31).map (fun i=>(i.zero,i.size,i.bytes))=some (some (.agg #[.int .i64 0,.string ⟨#[]⟩,.string ⟨#[]⟩,.string ⟨#[]⟩,.int .i64 0,.slice none 0 0]),6,88):=kD5
theorem list_walk (W0:World) (R B:Nat) (ts:List S47) (en:Nat) (ex:Nat→PR) (cl:ByteArray) (m now:Nat) (w:World) (E:Env W0 R B ts) (h:St W0 R B ts en now w) (hm:m+1≤now)
  (hex:Pars W0 R B ts en 134 ex (m+1)) :
  Calls Tryz.prog 279 #[.pointer (some ⟨R,0,none⟩),.string cl] w (zDt w R ts en now (zF4 ts en ex cl 8 [] now)):=by
 have few:=E.few;have hRw:=h.rdr.lt;have HX:=kA1 hex;have H:=kA1 h;generalize hresL:zF4 ts en ex cl 8 [] now=res;have HresL:=kA1 hresL;clear hex h hresL;go_enter Tryz.func279,Tryz.ntmps279;go_wp2_with fail;refine wp_scope_again 0 (fun k a' w'=>∃(acc:List S31) (n:Nat) (vl:Value) (u6 u7 u8 u9 u10 u11 u12 u13 u14 u15 u16 u17 u18 u19 u20 u21 u22 u23 u24 u25 u26 u27 u28 u29 u30 u31 u32 u33 u34:Value),a'={ tmps:=#[.pointer (some ⟨R,0,none⟩),.string cl,undef,undef,.slice none 0 0,vl,u6,u7,u8,u9,u10,u11,u12,u13,u14,u15,u16,u17,u18,u19,u20,u21,u22,u23,u24,u25,u26,u27,u28,u29,u30,u31,u32,u33,u34],defers:=[] } ∧
  k+acc.length=8∧0<k∧now≤n∧Gat W0 R B ts en w w' acc n vl∧Hid (zF4 ts en ex cl k acc n=res)) 8 rfl ?pass ?first
 case first =>
  go_wp2_with fail;refine⟨[],now,_,_,_,_,_,_,_,_,_,_,_,_,_,_,_,_,_,_,_,_,_,_,_,_,_,_,_,_,_,_,rfl,rfl,kD4,kD4,⟨H.out,Took.refl H.out.rdr,Kd.R_nil _ _ _ _ _⟩,HresL⟩
 case pass =>
  rintro k a' wr⟨acc,n,vl,u6,u7,u8,u9,u10,u11,u12,u13,u14,u15,u16,u17,u18,u19,u20,u21,u22,u23,u24,u25,u26,u27,u28,u29,u30,u31,u32,u33,u34,rfl,hk8,hk0,hnn,G,Hres⟩;clear HresL;obtain⟨ao,cap,inner,rfl,hcap,hao,hin,hol,hrep⟩:=zFI G.val;obtain⟨k,rfl⟩:∃j,k=j+1:=⟨k-1,kD4⟩;have Gd:=G.below ((kA3 _ wr).drew);have hp1:=HX.out n _ kD4 Gd.st;obtain⟨-,-,hR3,-,hRl⟩:=Gd.st.rdr.cells
  cases hc:ex n with
  | error p =>
   rw[hc] at hp1;unfold zAk zAm at hp1;have Hres':Hid (res=.error p):=by
    have:=Hres.out;unfold zF4 at this;rw[hc] at this;exact kA1 this.symm
   clear hc;go_wp2_with fail;refine kB7 (S:=(fun w'=>w'.cell? ⟨R,3,none⟩=some (.func (.func 134) #[] #[]))) kD5 hR3 (fun hHeld=>?_);refine kAx (i:=0) (v:=?v0c1) rfl kD5 kD5 kD5 (fun _ _ _ h=>h) (Or.inl ⟨kD9,?hy0c1⟩) kDb ?rest0c1
   case hy0c1=>(intro w hSw;(try dsimp only at hSw);go_simp;try (with_reducible rfl))
   try simp only[Act.put,kA0,List.set_cons_zero,List.set_cons_succ]
   refine kAx (i:=1) (v:=?v1c2) rfl kD5 kD5 kD5 (fun _ _ _ h=>h) (Or.inl ⟨kD9,?hy1c2⟩) kDb ?rest1c2
   case hy1c2=>(intro w hSw;(try dsimp only at hSw);go_simp;try (with_reducible rfl))
   try simp only[Act.put,kA0,List.set_cons_zero,List.set_cons_succ]
   refine kAx (i:=2) (v:=?v2c3) rfl kD5 kD5 kD5 (fun _ _ _ h=>h) (Or.inl ⟨kD9,?hy2c3⟩) kDb ?rest2c3
   case hy2c3=>(intro w hSw;(try dsimp only at hSw);go_simp;try (with_reducible rfl))
   try simp only[Act.put,kA0,List.set_cons_zero,List.set_cons_succ]
   refine kAx (i:=3) (v:=?v3c4) rfl kD5 kD5 kD5 (fun _ _ _ h=>h) (Or.inl ⟨kD9,?hy3c4⟩) kDb ?rest3c4
   case hy3c4=>(intro w hSw;(try dsimp only at hSw);go_simp;try (with_reducible rfl))
   try simp only[Act.put,kA0,List.set_cons_zero,List.set_cons_succ]
   refine kAx (i:=4) (v:=?v4c5) rfl kD5 kD5 kD5 (fun _ _ _ h=>h) (Or.inl ⟨kD9,?hy4c5⟩) kDb ?rest4c5
   case hy4c5=>(intro w hSw;(try dsimp only at hSw);go_simp;try (with_reducible rfl))
   try simp only[Act.put,kA0,List.set_cons_zero,List.set_cons_succ]
   refine kAx (i:=5) (v:=?v5c6) rfl kD5 kD5 kD5 (fun _ _ _ h=>h) (Or.inl ⟨kD9,?hy5c6⟩) kDb ?rest5c6
   case hy5c6=>(intro w hSw;(try dsimp only at hSw);go_simp;try (with_reducible rfl))
   try simp only[Act.put,kA0,List.set_cons_zero,List.set_cons_succ]
   refine kAx (i:=6) (v:=?v6c7) rfl kD5 kD5 kD5 (fun _ _ _ h=>h) (Or.inl ⟨kD9,?hy6c7⟩) kDb ?rest6c7
   case hy6c7=>(intro w hSw;(try dsimp only at hSw);go_simp;try (with_reducible rfl))
   try simp only[Act.put,kA0,List.set_cons_zero,List.set_cons_succ]
   refine kAx (i:=7) (v:=?v7c8) rfl kD5 kD5 kD5 (fun _ _ _ h=>h) (Or.inl ⟨kD9,?hy7c8⟩) kDb ?rest7c8
   case hy7c8=>(intro w hSw;(try dsimp only at hSw);go_simp;try (with_reducible rfl))
   try simp only[Act.put,kA0,List.set_cons_zero,List.set_cons_succ]
   refine kAx (i:=8) (v:=?v8c9) rfl kD5 kD5 kD5 (fun _ _ _ h=>h) (Or.inl ⟨kD9,?hy8c9⟩) kDb ?rest8c9
   case hy8c9=>(intro w hSw;(try dsimp only at hSw);go_simp;try (with_reducible rfl))
   try simp only[Act.put,kA0,List.set_cons_zero,List.set_cons_succ]
   refine kAx (i:=9) (v:=?v9c10) rfl kD5 kD5 kD5 (fun _ _ _ h=>h) (Or.inl ⟨kD9,?hy9c10⟩) kDb ?rest9c10
   case hy9c10=>(intro w hSw;(try dsimp only at hSw);go_simp;try (with_reducible rfl))
   try simp only[Act.put,kA0,List.set_cons_zero,List.set_cons_succ]
   refine kAx (i:=10) (v:=?v10c11) rfl kD5 kD5 kD5 (fun _ _ _ h=>h) (Or.inl ⟨kD9,?hy10c11⟩) kDb ?rest10c11
   case hy10c11=>(intro w hSw;(try dsimp only at hSw);go_simp;try (with_reducible rfl))
   try simp only[Act.put,kA0,List.set_cons_zero,List.set_cons_succ]
   refine kBO (rs:=[11]) kD5 kD6 ?_;refine kBF rfl (fun K hK=>?_) kBJ;go_simp;go_wp2_with (go_at_call 134;refine hp1.mono ?_;rintro e w2 ⟨rfl,hg2⟩);rw[Hres'.out];exact⟨rfl,rfl,kA7 Gd.took.grown hg2⟩
  | ok r =>
   obtain⟨x,n1⟩:=r;rw[hc] at hp1;unfold zAk at hp1;have Hres1:Hid ((if (acc++[x]).length<8∧sk ts en n1 ⟨#[44]⟩=true then zF4 ts en ex cl k (acc++[x]) (n1+1) else if sk ts en n1 cl=true then .ok (acc++[x],n1+1) else .error (atP ts en n1))=res):=by
    have:=Hres.out;unfold zF4 at this;rw[hc] at this;exact kA1 this
   clear hc Hres;obtain⟨i0,hi,hzz⟩:=kBK.1 info31;simp only[kCU] at hzz;obtain⟨hz0,hz1,hz2⟩:=hzz;have hacc8:acc.length<8:=kD4
   go_wp2_with fail
   go_region_law ((first
    | (refine step_append_grows rfl (.tmp 11) (.tmp 18) 29 rfl 31 i0 _ 6 88 Tryz.underlying29 hi hz0 hz1 hz2 rfl ?_ ao acc.length acc.length inner3 rfl ?_ hin3 hol3 ⟨w2.heap.size,0,none⟩ 1 1 [.int .i64 x.f0,.string x.f1.f0,.string x.f1.f1,.string x.f2,.int .i64 x.f3,.slice A5 n5 c5] rfl rfl hnew3 hone3 ?_ ?_ ?_ ?_;(· decide);(· exact hao3);(· omega);(· exact hsm1);(· exact hsm2);intro v4 w4 ho4 hg4)
    | (go_simp;go_at_call 134;refine hp1.mono ?_;rintro e w2 ⟨hn1,hn2,vy,rfl,hy,hk2⟩;obtain⟨v5,A5,n5,c5,rfl,rfl,_,_⟩:=hy.cells;obtain⟨inner3,hin3,hol3,hnew3,hone3,hao3,hsm1,hsm2,hr3⟩:=list_facts (Gd.go E hRw hk2 hn2).val kD4 x (.slice A5 n5 c5) rfl;unfold exV)))
   all_goals
    have hb4:=(kA3 _ _).grown hg4 (kA2 _) (fun j e=>by cases e);have G2:=Gd.go E hRw hk2 hn2;have G3:=G2.below ((kA3 _ w2).alloc (kA2 _) (.cells #[.int .i64 x.f0,.string x.f1.f0,.string x.f1.f1,.string x.f2,.int .i64 x.f3,.slice A5 n5 c5] 31));have hws:=Gd.took.grown.size;have hws2:=G3.took.grown.size;have val4:=row_append hr3 ((hy.mono (fun j hj=>kAB hws hj)).below ((kA3 _ w2).alloc (kA2 _) _)) (fun j hj=>kAB hws2 hj) ho4 hg4;have G4:Gat W0 R B ts en w w4 (acc++[x]) n1 v4:=⟨G3.st.below hb4,G3.took.below hb4,val4⟩;obtain⟨ao4,cap4,inner4,rfl,-,-,-,-,-⟩:=zFI val4;have hlen:(acc++[x]).length=acc.length+1:=kD6
    rw[hlen] at G4;have hn1l:=hn2;have hnn1:now<n1:=kD4
    clear G3 G2 hb4 val4 ho4 hg4 hr3 hin3 hol3 hnew3 hone3 hao3 hsm1 hsm2 hws hws2 hp1 hrep hol hao hin hcap hy hk2 Gd G;generalize acc++[x]=acc1 at *;by_cases h8:acc1.length<8
    ·have h8i:(acc1.length:Int)<8:=kD4
     cases hs:sk ts en n1 ⟨#[44]⟩ with
     | true =>
      have hlt:=zAv hs;have hsk:=zAE R ts n1 en ⟨#[44]⟩ w4 G4.st.rdr few hs;have Hr:=Hres1.out;rw[kAa ⟨h8,hs⟩] at Hr;have Hr:=kA1 Hr;clear Hres1;go_wp2_with (go_at_call 156;refine hsk.mono ?_;rintro e w6 ⟨rfl,hk6⟩);have G6:=G4.go E hRw hk6 hlt
      go_step3
      refine⟨rfl,k,kD4,acc1,n1+1,_,_,_,_,_,_,_,_,_,_,_,_,_,_,_,_,_,_,_,_,_,_,_,_,_,_,_,_,_,_,rfl,kD4,kD4,kD4,G6,Hr⟩
     | false =>
      have hsk:=zAT R ts n1 en ⟨#[44]⟩ w4 G4.st.rdr hn1l hs;have Hr:=Hres1.out;rw[kA9 (fun h=>by rw[hs] at h;cases h.2)] at Hr;clear Hres1
      cases hcl:sk ts en n1 cl with
      | true =>
       rw[hcl,kAa rfl] at Hr;have Hr:=kA1 Hr;have hltc:=zAv hcl;go_wp2_with (first
        | (go_at_call 156;refine hsk.mono ?_;rintro e w6 ⟨rfl,hk6⟩;have G6:=G4.go E hRw hk6 hn1l)
        | (go_at_call 158;refine (zBW R ts n1 en cl _ G6.st.rdr few hcl).mono ?_;rintro e w7 ⟨rfl,hk7⟩))
       have G7:=G6.go E hRw hk7 hltc
       try simp only[Exit.jump]
       go_ret;rw[← Hr.out];exact⟨kD4,hltc,_,rfl,G7.val,G7.took⟩
      | false =>
       rw[hcl,kA9 kD7] at Hr;have Hr:=kA1 Hr;have htn:=fun w' hr=>zCt R ts n1 en cl w' hr hn1l hcl
       unfold zAm at htn;have Htn:=kA1 htn;clear htn;go_wp2_with (first
        | (go_at_call 156;refine hsk.mono ?_;rintro e w6 ⟨rfl,hk6⟩;have G6:=G4.go E hRw hk6 hn1l)
        | (go_at_call 158;refine (Htn.out _ G6.st.rdr).mono ?_;rintro e w7 ⟨rfl,hb7⟩))
       try simp only[Exit.jump]
       rw[← Hr.out];exact⟨rfl,rfl,kAk G6.took.grown hb7⟩
    ·have h8i:¬(acc1.length:Int)<8:=kD4
     have Hr:=Hres1.out;rw[kA9 (fun h=>h8 h.1)] at Hr;clear Hres1;have G6:=G4
     cases hcl:sk ts en n1 cl with
     | true =>
      rw[hcl,kAa rfl] at Hr;have Hr:=kA1 Hr;have hltc:=zAv hcl;go_wp2_with (first
       | (go_at_call 158;refine (zBW R ts n1 en cl _ G6.st.rdr few hcl).mono ?_;rintro e w7 ⟨rfl,hk7⟩))
      have G7:=G6.go E hRw hk7 hltc
      try simp only[Exit.jump]
      go_ret;rw[← Hr.out];exact⟨kD4,hltc,_,rfl,G7.val,G7.took⟩
     | false =>
      rw[hcl,kA9 kD7] at Hr;have Hr:=kA1 Hr;have htn:=fun w' hr=>zCt R ts n1 en cl w' hr hn1l hcl
      unfold zAm at htn;have Htn:=kA1 htn;clear htn;go_wp2_with (first
       | (go_at_call 158;refine (Htn.out _ G6.st.rdr).mono ?_;rintro e w7 ⟨rfl,hb7⟩))
      try simp only[Exit.jump]
      rw[← Hr.out];exact⟨rfl,rfl,kAk G6.took.grown hb7⟩
end Go.Proofs.YtjaobihcdkjmbaaGreatDoor
end
section
namespace Go.Proofs
open Go.RowKit Go.Maps Go.Sort Go.Shelf
def Tryz.copy110_ren:Go.Shelf.Ren:=⟨fun | 5=>110 | n=>n,fun | 23=>116 | 24=>116 | 26=>9 | 27=>4 | 0=>0 | 4=>4 | n=>n,fun | n=>n⟩
theorem Tryz.copy110:Go.Proofs.SlLaysX.n5 Tryz.prog Tryz.copy110_ren:={
  mixed:=kD5
  f5:=⟨Tryz.f110.name,kD7,Tryz.func110.trans (congrArg some kD5)⟩
  t0:=Tryz.underlying0
  a0:=Tryz.isAgg0
  z0:=Tryz.sizeOf0
  v0:=Tryz.zeroValue0
  t4:=Tryz.underlying4
  a4:=Tryz.isAgg4
  z4:=Tryz.sizeOf4
  v4:=Tryz.zeroValue4
  t23:=Tryz.underlying116
  a23:=Tryz.isAgg116
  z23:=Tryz.sizeOf116
  v23:=Tryz.zeroValue116
  t24:=Tryz.underlying116
  a24:=Tryz.isAgg116
  z24:=Tryz.sizeOf116
  v24:=Tryz.zeroValue116
  a26:=Tryz.isAgg9
  z26:=Tryz.sizeOf9
  a27:=Tryz.isAgg4
  z27:=Tryz.sizeOf4 }
def Tryz.keys112_ren:Go.Shelf.Ren:=⟨fun | 7=>112 | 10=>149 | n=>n,fun | 23=>116 | 26=>9 | 3=>4 | 28=>169 | 0=>0 | 27=>168 | 33=>114 | 4=>4 | n=>n,fun | n=>n⟩
theorem Tryz.keys112:Go.Proofs.SlLaysZ.n7 Tryz.prog Tryz.keys112_ren:={
  mixed:=kD5
  f7:=⟨Tryz.f112.name,kD7,Tryz.func112.trans (congrArg some kD5)⟩
  f10:=⟨Tryz.f149.name,kD7,Tryz.func149.trans (congrArg some kD5)⟩
  t0:=Tryz.underlying0
  a0:=Tryz.isAgg0
  z0:=Tryz.sizeOf0
  v0:=Tryz.zeroValue0
  t4:=Tryz.underlying4
  a4:=Tryz.isAgg4
  z4:=Tryz.sizeOf4
  v4:=Tryz.zeroValue4
  t23:=Tryz.underlying116
  a23:=Tryz.isAgg116
  z23:=Tryz.sizeOf116
  v23:=Tryz.zeroValue116
  t26:=Tryz.underlying9
  a26:=Tryz.isAgg9
  z26:=Tryz.sizeOf9
  v26:=Tryz.zeroValue9
  t27:=Tryz.underlying168
  a27:=Tryz.isAgg168
  z27:=Tryz.sizeOf168
  v27:=Tryz.zeroValue168
  t28:=Tryz.underlying169
  a28:=Tryz.isAgg169
  z28:=Tryz.sizeOf169
  v28:=Tryz.zeroValue169
  t33:=Tryz.underlying114
  a33:=Tryz.isAgg114
  z33:=Tryz.sizeOf114
  v33:=Tryz.zeroValue114 }
def Tryz.sorted111_ren:Go.Shelf.Ren:=⟨fun | 6=>111 | 8=>147 | 9=>148 | 11=>173 | 13=>175 | 12=>174 | 23=>210 | 24=>211 | 14=>201 | 15=>202 | 16=>203 | 17=>204 | 18=>205 | 19=>206 | 20=>207 | 21=>208 | 22=>209 | 25=>242 | 26=>243 | 27=>244 | 28=>245 | 29=>246 | 30=>247 | 31=>272 | n=>n,fun | 26=>9 | 28=>169 | 24=>34 | 0=>0 | 3=>3 | 37=>157 | 48=>270 | 50=>75 | 4=>4 | 40=>264 | 39=>263 | 45=>164 | 5=>5 | 9=>9 | 51=>291 | 55=>294 | 57=>316 | 58=>201 | 33=>114 | n=>n,fun | n=>n⟩
theorem Tryz.sorted111:Go.Proofs.SlLaysZ.n6 Tryz.prog Tryz.sorted111_ren:={
  mixed:=kD5
  f6:=⟨Tryz.f111.name,kD7,Tryz.func111.trans (congrArg some kD5)⟩
  f8:=⟨Tryz.f147.name,kD7,Tryz.func147.trans (congrArg some kD5)⟩
  f11:=⟨Tryz.f173.name,kD7,Tryz.func173.trans (congrArg some kD5)⟩
  t0:=Tryz.underlying0
  a0:=Tryz.isAgg0
  z0:=Tryz.sizeOf0
  v0:=Tryz.zeroValue0
  t24:=Tryz.underlying34
  a24:=Tryz.isAgg34
  z24:=Tryz.sizeOf34
  v24:=Tryz.zeroValue34
  t26:=Tryz.underlying9
  a26:=Tryz.isAgg9
  z26:=Tryz.sizeOf9
  v26:=Tryz.zeroValue9
  t28:=Tryz.underlying169
  a28:=Tryz.isAgg169
  z28:=Tryz.sizeOf169
  v28:=Tryz.zeroValue169
  i26:=by kernel_rfl }
def Tryz.sort148_ren:Go.Shelf.Ren:=⟨fun | 6=>148 | 8=>175 | 9=>174 | 19=>210 | 20=>211 | 21=>201 | 22=>202 | 23=>203 | 24=>204 | 25=>205 | 26=>206 | 27=>207 | 28=>208 | 29=>209 | 36=>242 | 31=>243 | 32=>244 | 37=>245 | 38=>246 | 39=>247 | 41=>272 | n=>n,fun | 27=>34 | 29=>9 | 3=>3 | 32=>157 | 26=>34 | 0=>0 | 44=>270 | 46=>75 | 4=>4 | 36=>264 | 35=>263 | 41=>164 | 5=>5 | 9=>9 | 53=>291 | 57=>294 | 63=>316 | 64=>201 | n=>n,fun | n=>n⟩
theorem Tryz.sort148:Go.Proofs.SlLaysM.n6 Tryz.prog Tryz.sort148_ren:={
  mixed:=kD5
  f6:=⟨Tryz.f148.name,kD7,Tryz.func148.trans (congrArg some kD5)⟩
  f8:=Tryz.func175.trans (congrArg some kD5)
  f9:=⟨Tryz.f174.name,kD7,Tryz.func174.trans (congrArg some kD5)⟩
  f19:=Tryz.func210.trans (congrArg some kD5)
  f20:=Tryz.func211.trans (congrArg some kD5)
  f21:=⟨Tryz.f201.name,kD7,Tryz.func201.trans (congrArg some kD5)⟩
  f22:=⟨Tryz.f202.name,kD7,Tryz.func202.trans (congrArg some kD5)⟩
  f23:=⟨Tryz.f203.name,kD7,Tryz.func203.trans (congrArg some kD5)⟩
  f24:=⟨Tryz.f204.name,kD7,Tryz.func204.trans (congrArg some kD5)⟩
  f25:=⟨Tryz.f205.name,kD7,Tryz.func205.trans (congrArg some kD5)⟩
  f26:=⟨Tryz.f206.name,kD7,Tryz.func206.trans (congrArg some kD5)⟩
  f27:=⟨Tryz.f207.name,kD7,Tryz.func207.trans (congrArg some kD5)⟩
  f28:=⟨Tryz.f208.name,kD7,Tryz.func208.trans (congrArg some kD5)⟩
  f29:=⟨Tryz.f209.name,kD7,Tryz.func209.trans (congrArg some kD5)⟩
  f31:=Tryz.func243.trans (congrArg some kD5)
  f32:=Tryz.func244.trans (congrArg some kD5)
  f36:=⟨Tryz.f242.name,kD7,Tryz.func242.trans (congrArg some kD5)⟩
  f37:=⟨Tryz.f245.name,kD7,Tryz.func245.trans (congrArg some kD5)⟩
  f38:=⟨Tryz.f246.name,kD7,Tryz.func246.trans (congrArg some kD5)⟩
  f39:=⟨Tryz.f247.name,kD7,Tryz.func247.trans (congrArg some kD5)⟩
  f41:=⟨Tryz.f272.name,kD7,Tryz.func272.trans (congrArg some kD5)⟩
  t0:=Tryz.underlying0
  a0:=Tryz.isAgg0
  z0:=Tryz.sizeOf0
  v0:=Tryz.zeroValue0
  t3:=Tryz.underlying3
  a3:=Tryz.isAgg3
  z3:=Tryz.sizeOf3
  v3:=Tryz.zeroValue3
  t4:=Tryz.underlying4
  a4:=Tryz.isAgg4
  z4:=Tryz.sizeOf4
  v4:=Tryz.zeroValue4
  t5:=Tryz.underlying5
  a5:=Tryz.isAgg5
  z5:=Tryz.sizeOf5
  v5:=Tryz.zeroValue5
  t9:=Tryz.underlying9
  a9:=Tryz.isAgg9
  z9:=Tryz.sizeOf9
  v9:=Tryz.zeroValue9
  t26:=Tryz.underlying34
  a26:=Tryz.isAgg34
  z26:=Tryz.sizeOf34
  v26:=Tryz.zeroValue34
  t27:=Tryz.underlying34
  a27:=Tryz.isAgg34
  z27:=Tryz.sizeOf34
  v27:=Tryz.zeroValue34
  t29:=Tryz.underlying9
  a29:=Tryz.isAgg9
  z29:=Tryz.sizeOf9
  v29:=Tryz.zeroValue9
  t32:=Tryz.underlying157
  a32:=Tryz.isAgg157
  z32:=Tryz.sizeOf157
  v32:=Tryz.zeroValue157
  t35:=Tryz.underlying263
  a35:=Tryz.isAgg263
  z35:=Tryz.sizeOf263
  v35:=Tryz.zeroValue263
  t36:=Tryz.underlying264
  a36:=Tryz.isAgg264
  z36:=Tryz.sizeOf264
  v36:=Tryz.zeroValue264
  t41:=Tryz.underlying164
  a41:=Tryz.isAgg164
  z41:=Tryz.sizeOf164
  v41:=Tryz.zeroValue164
  t44:=Tryz.underlying270
  a44:=Tryz.isAgg270
  z44:=Tryz.sizeOf270
  v44:=Tryz.zeroValue270
  t46:=Tryz.underlying75
  a46:=Tryz.isAgg75
  z46:=Tryz.sizeOf75
  v46:=Tryz.zeroValue75
  t53:=Tryz.underlying291
  a53:=Tryz.isAgg291
  z53:=Tryz.sizeOf291
  v53:=Tryz.zeroValue291
  t57:=Tryz.underlying294
  a57:=Tryz.isAgg294
  z57:=Tryz.sizeOf294
  v57:=Tryz.zeroValue294
  t63:=Tryz.underlying316
  a63:=Tryz.isAgg316
  z63:=Tryz.sizeOf316
  v63:=Tryz.zeroValue316
  t64:=Tryz.underlying201
  a64:=Tryz.isAgg201
  z64:=Tryz.sizeOf201
  v64:=Tryz.zeroValue201 }
theorem Tryz.sorts111 (m:Nat):AnyZ.SortsIn Tryz.prog Tryz.sorted111_ren Fence.wide m :=
  ⟨fun blk off cap ss W hH hblk hsz=>kBp.2 (AnyM.slices_Sort_string Tryz.sort148 blk off cap ss W hH hblk hsz),
   fun p cap W=>kBp.2 (AnyM.slices_Sort_string_none Tryz.sort148 p cap W)⟩
theorem Tryz.maps_Keys_112 (mb:Option Nat) (W:World):CallsIn Fence.wide 5 Tryz.prog 112 #[.map mb] W fun e w'=>e=.returned (.func (.func 149) #[] #[.pointer (some ⟨W.heap.size,0,none⟩)])∧w'=W.alloc (.cells #[.map mb] 116) :=
  AnyZ.keys_in Tryz.keys112 Fence.wide 5 trivial rfl mb W
theorem Tryz.slices_Sorted_keys_111_112 {H:Type} (b nn:Nat) (D0:DataW H) (R:Value→Option (DataW H×List MemPlace)) (w:World) (hown:w.ownsMap Tryz.prog 9 R b nn D0) (hmax:Maps.size D0≤maxLen) (hbytes:Maps.size D0*16≤140737488355328) :
    CallsIn Fence.wide 5 Tryz.prog 111 #[.func (.func 149) #[] #[.pointer (some ⟨w.heap.size,0,none⟩)]] (w.alloc (.cells #[.map (some b)] 116)) fun e w'=>∃(v:Value) (ss:List (List UInt8)),e=.returned v∧ss.Perm (strKeys D0) ∧
      w'.ownsRow (w.alloc (.cells #[.map (some b)] 116)).heap.size 9 1 v ss.length ((ss.mergeSort (fun x y=>decide (x≤y))).map encStr)∧(v=.slice none 0 0↔ss=[])∧Below (w.alloc (.cells #[.map (some b)] 116)).heap.size (w.alloc (.cells #[.map (some b)] 116)) w':=by
  have hbl:=hown.lt;have hseq:SeqGives Fence.wide 2 Tryz.prog 149 #[.pointer (some ⟨w.heap.size,0,none⟩)] encStr (fun ss=>ss.Perm (strKeys D0)) (Maps.size D0) (w.alloc (.cells #[.map (some b)] 116)) :=
    AnyZ.keys_gives (ρ:=Tryz.keys112_ren) { Tryz.keys112 with } Fence.wide _ trivial rfl kD4 w.heap.size b nn D0 _ kD6 kD6 (by
      obtain⟨es,clock,hb,Ft,hs,hD⟩:=hown;exact⟨es,clock,(kA4 _ _ b hbl).trans hb,Ft,hs,hD⟩)
  exact AnyZ.sorted_in Tryz.sorted111 Fence.wide 5 trivial trivial trivial trivial rfl kD4 (Tryz.sorts111 _) (enters_of Tryz.func148 kD5 rfl) 149 #[.pointer (some ⟨w.heap.size,0,none⟩)] trivial (enters_of Tryz.func149 kD5 rfl) _ _ hmax hbytes _ hseq
end Go.Proofs
end
section
namespace Go.Proofs.YtjaobihcdkjmbaaGreatDoor.PReadTokens
open Go.RowKit Go.Proofs.YtjaobihcdkjmbaaGreatDoorW.PrintWords Go.Proofs.YtjaobihcdkjmbaaGreatDoorW.PrintLast Go.Proofs.YtjaobihcdkjmbaaGreatDoorW.PrintMore
section
attribute [local go_sem] zE1 zDZ zF2 zF1 zDj zDi zE0 zDY   -- for this text's walks alone
set_option linter.unusedVariables false
set_option linter.unusedSimpArgs false
def metewandkit_EqTexts.l0:Nat→List ByteArray→List ByteArray→Int→Option (Bool)
 | 0,_,_,_=>none
 | k+1,x0,x1,x5=>if x5<(x0.length:Int) then (if 0≤x5 then (if x5<(x1.length:Int) then (if (rdOf ByteArray.empty x0 x5).toList=(rdOf ByteArray.empty x1 x5).toList then (metewandkit_EqTexts.l0 k x0 x1 (wrap64 (x5+1))) else (some false)) else (none)) else (none)) else (some true)
def metewandkit_EqTexts.f (k:Nat) (l0:List ByteArray) (l1:List ByteArray):Option (Bool):=if (l0.length:Int)=(l1.length:Int) then (metewandkit_EqTexts.l0 k l0 l1 0) else (some false)
theorem metewandkit_EqTexts.calls (k:Nat) (A0:Option Addr) (c0:Nat) (l0:List ByteArray) (A1:Option Addr) (c1:Nat) (l1:List ByteArray) (r:Bool) (w:World) (hr0:Kd.C Kd.string w A0 l0.length l0) (hc0:l0.length≤c0) (hr1:Kd.C Kd.string w A1 l1.length l1) (hc1:l1.length≤c1) (h:metewandkit_EqTexts.f k l0 l1=some r) :
  Calls Tryz.prog 40 #[.slice A0 l0.length c0,.slice A1 l1.length c1] w fun e w'=>e=.returned (.bool r)∧Drawn0 w w':=by
 have HR0:=Aside0.mk hr0;have HC0:=Aside0.mk hc0;clear hr0 hc0;have HR1:=Aside0.mk hr1;have HC1:=Aside0.mk hc1;clear hr1 hc1;have H:(if (l0.length:Int)=(l1.length:Int) then (metewandkit_EqTexts.l0 k l0 l1 0) else (some false))=some r:=h;clear h;by_cases c3:(l0.length:Int)=(l1.length:Int)
 ·rw[kAa c3] at H;have c3b0:((l0.length:Int)==(l1.length:Int))=true:=beq_iff_eq.mpr c3;have c3b1:((l0.length:Int) != (l1.length:Int))=false:=bne_eq_false_iff_eq.mpr c3;have c3b2:(l0.length==l1.length)=true:=by first | simpa using c3 | (simp at c3⊢;omega)
  clear c3;have H':=Aside0.mk H;clear H;go_enter Tryz.func40,Tryz.ntmps40;go_wp2
  repeat (go_quiet (fail);try go_wp2)
  go_loopg [5] k (fun kq v5 w'=>∃(x5_1:Int),v5=.int .i64 x5_1∧Aside0 (metewandkit_EqTexts.l0 kq l0 l1 x5_1=some r)∧Aside0 (kq≤k)∧Drawn0 w w')
  case atStart=>exact⟨(0),kDh,H',⟨kA2 _⟩,by repeat (first | exact Drawn0.refl _ | apply Drawn0.step)⟩
  case round =>
   clear H'
   try clear c1
   try clear p2
   try clear c3
   try clear c3b0
   try clear c3b1
   try clear c3b2
   obtain⟨x5_1,rfl,HA,HK1,⟨m1,rfl⟩⟩:=hrel
   cases gk with
   | zero=>exact absurd HA.out (by simp[metewandkit_EqTexts.l0])
   | succ k1 =>
    have H:=HA.out;clear HA;simp only[metewandkit_EqTexts.l0] at H;by_cases c4:x5_1<(l0.length:Int)
    ·rw[kAa c4] at H;have c4b0:decide (x5_1<(l0.length:Int))=true:=kA8 c4;clear c4;by_cases c5:0≤x5_1
     ·rw[kAa c5] at H;have c5b0:decide (0≤x5_1)=true:=kA8 c5;clear c5;by_cases c6:x5_1<(l1.length:Int)
      ·rw[kAa c6] at H;have c6b0:decide (x5_1<(l1.length:Int))=true:=kA8 c6;clear c6;by_cases c7:(rdOf ByteArray.empty l0 x5_1).toList=(rdOf ByteArray.empty l1 x5_1).toList
       ·rw[kAa c7] at H;have c7b0:((rdOf ByteArray.empty l0 x5_1).toList==(rdOf ByteArray.empty l1 x5_1).toList)=true:=beq_iff_eq.mpr c7;have c7b1:((rdOf ByteArray.empty l0 x5_1).toList != (rdOf ByteArray.empty l1 x5_1).toList)=false:=bne_eq_false_iff_eq.mpr c7;clear c7;have H':=Aside0.mk H;clear H;have p344:0≤(x5_1:Int):=kAn kDf;have q344:x5_1<(l0.length:Int):=kAn kDf;obtain⟨ad344,e344,hx344_0⟩:=Kd.at_string HR0.out x5_1 p344 q344
        cases e344;replace p344:=kAX p344;replace q344:=kAX q344;have p345:0≤(x5_1:Int):=kAn kDf;have q345:x5_1<(l1.length:Int):=kAn kDf;obtain⟨ad345,e345,hx345_0⟩:=Kd.at_string HR1.out x5_1 p345 q345
        cases e345;replace p345:=kAX p345;replace q345:=kAX q345;go_wp2
        repeat (go_quiet (fail);try go_wp2)
        go_roundg k1
        case measure=>have:=HK1.out;omega
        case rel=>exact⟨(wrap64 (x5_1+1)),kDh,H',⟨by have:=HK1.out;omega⟩,by repeat (first | exact Drawn0.refl _ | apply Drawn0.step)⟩
       ·rw[kA9 c7] at H;have c7b0:((rdOf ByteArray.empty l0 x5_1).toList==(rdOf ByteArray.empty l1 x5_1).toList)=false:=beq_eq_false_iff_ne.mpr c7;have c7b1:((rdOf ByteArray.empty l0 x5_1).toList != (rdOf ByteArray.empty l1 x5_1).toList)=true:=bne_iff_ne.mpr c7;obtain rfl:=kAg H;have p344:0≤(x5_1:Int):=kAn kDf;have q344:x5_1<(l0.length:Int):=kAn kDf;obtain⟨ad344,e344,hx344_0⟩:=Kd.at_string HR0.out x5_1 p344 q344
        cases e344;replace p344:=kAX p344;replace q344:=kAX q344;have p345:0≤(x5_1:Int):=kAn kDf;have q345:x5_1<(l1.length:Int):=kAn kDf;obtain⟨ad345,e345,hx345_0⟩:=Kd.at_string HR1.out x5_1 p345 q345
        cases e345;replace p345:=kAX p345;replace q345:=kAX q345;go_wp2
        repeat (go_quiet (fail);try go_wp2)
        go_ret;exact⟨kDh,by repeat (first | exact Drawn0.refl _ | apply Drawn0.step)⟩
      ·rw[kA9 c6] at H;exact absurd H kD6
     ·rw[kA9 c5] at H;exact absurd H kD6
    ·rw[kA9 c4] at H;have c4b0:decide (x5_1<(l0.length:Int))=false:=kAc c4;clear c4;obtain rfl:=kAg H;go_wp2
     repeat (go_quiet (fail);try go_wp2)
     go_ret;exact⟨kDh,by repeat (first | exact Drawn0.refl _ | apply Drawn0.step)⟩
 ·rw[kA9 c3] at H;have c3b0:((l0.length:Int)==(l1.length:Int))=false:=beq_eq_false_iff_ne.mpr c3;have c3b1:((l0.length:Int) != (l1.length:Int))=true:=bne_iff_ne.mpr c3;have c3b2:(l0.length==l1.length)=false:=by first | simpa using c3 | (simp at c3⊢;omega)
  obtain rfl:=kAg H;go_enter Tryz.func40,Tryz.ntmps40;go_wp2
  repeat (go_quiet (fail);try go_wp2)
  go_ret;exact⟨kDh,by repeat (first | exact Drawn0.refl _ | apply Drawn0.step)⟩
mutual
def metewandref13_level.j0:Nat→Int→Bool→Option (Int)
 | 0,_,_=>none
 | k+1,x4,x5=>if x5=true then (some 0) else (if x4=2 then (metewandref13_level.j1 k x4 (x4==2)) else (if x4=3 then (metewandref13_level.j1 k x4 (x4==3)) else (metewandref13_level.j1 k x4 (x4==4))))
def metewandref13_level.j1:Nat→Int→Bool→Option (Int)
 | 0,_,_=>none
 | k+1,x4,x10=>if x10=true then (some 1) else (if x4=5 then (metewandref13_level.j2 k x4 (x4==5)) else (metewandref13_level.j2 k x4 (x4==6)))
def metewandref13_level.j2:Nat→Int→Bool→Option (Int)
 | 0,_,_=>none
 | k+1,x4,x14=>if x14=true then (some 2) else (if x4=7 then (some 3) else (some 4))
end
def metewandref13_level.f (k:Nat) (a0_0:Int) (a0_1:ByteArray) (a0_2:ByteArray) (a0_3:ByteArray) (a0_4:Int) (l0_5:List (S31)):Option (Int):=if a0_0=13 then (metewandref13_level.j0 k a0_0 (a0_0==13)) else (if a0_0=12 then (metewandref13_level.j0 k a0_0 (a0_0==12)) else (if a0_0=10 then (metewandref13_level.j0 k a0_0 (a0_0==10)) else (metewandref13_level.j0 k a0_0 (a0_0==11))))
theorem metewandref13_level.calls (k:Nat) (a0_0:Int) (a0_1:ByteArray) (a0_2:ByteArray) (a0_3:ByteArray) (a0_4:Int) (A0_5:Option Addr) (c0_5:Nat) (l0_5:List (S31)) (r:Int) (w:World) (hr0_5:Kd.C k31 w A0_5 l0_5.length l0_5) (hc0_5:l0_5.length≤c0_5) (h:metewandref13_level.f k a0_0 a0_1 a0_2 a0_3 a0_4 l0_5=some r) :
  Calls Tryz.prog 120 #[.agg #[.int .i64 a0_0,.string a0_1,.string a0_2,.string a0_3,.int .i64 a0_4,.slice A0_5 l0_5.length c0_5]] w fun e w'=>e=.returned (.int .i64 r)∧Below w.heap.size w w':=by
 have hu31:=Tryz.underlying31;have HR0_5:=Aside0.mk hr0_5;have HC0_5:=Aside0.mk hc0_5;clear hr0_5 hc0_5;have HB:=Aside0.mk (kA3 w.heap.size w);have H:(if a0_0=13 then (metewandref13_level.j0 k a0_0 (a0_0==13)) else (if a0_0=12 then (metewandref13_level.j0 k a0_0 (a0_0==12)) else (if a0_0=10 then (metewandref13_level.j0 k a0_0 (a0_0==10)) else (metewandref13_level.j0 k a0_0 (a0_0==11)))))=some r:=h;clear h;have HC2:=Aside0.mk H;clear H;go_enter Tryz.func120,Tryz.ntmps120
 go_upto_if 5 with (first | ((with_reducible refine zFu (N:=1) rfl ?_);refine box_event ?hg (N:=1) ?hd (cs:=#[.int .i64 a0_0,.string a0_1,.string a0_2,.string a0_3,.int .i64 a0_4,.slice A0_5 l0_5.length c0_5]) (t:=31) ?hr ?_;(case hd=>rfl);(case hg=>rfl);(case hr=>first | (go_simp;done) | (go_simp;rfl));intro gb356 hg w3 hbox hb;have n0_:=Aside0.mk (zB9 kDg hb);have n1_:=Aside0.mk (hbox);have n2_:=Aside0.mk ((by rw[hg];exact (zCh kDg):w.heap.size≤gb356));have n3_:=Aside0.mk ((by rw[hg];exact (zCh kDg):w.heap.size≤gb356));clear HB;have HB:=n0_;have BK356:=n1_;have GW356:=n2_;have GE356:=n3_;clear n0_ n1_ n2_ n3_;clear hb hbox hg;have hcz4_0:w3.cell? ⟨gb356,0,none⟩=some (.int .i64 a0_0):=(zA1 BK356.out 0).trans rfl;have hcz4_1:w3.cell? ⟨gb356,1,none⟩=some (.string a0_1):=(zA1 BK356.out 1).trans rfl;have hcz4_2:w3.cell? ⟨gb356,2,none⟩=some (.string a0_2):=(zA1 BK356.out 2).trans rfl;have hcz4_3:w3.cell? ⟨gb356,3,none⟩=some (.string a0_3):=(zA1 BK356.out 3).trans rfl;have hcz4_4:w3.cell? ⟨gb356,4,none⟩=some (.int .i64 a0_4):=(zA1 BK356.out 4).trans rfl;have hcz4_5:w3.cell? ⟨gb356,5,none⟩=some (.slice A0_5 l0_5.length c0_5):=(zA1 BK356.out 5).trans rfl;have hfz4_0:=zA2 BK356.out 0;have hfz4_1:=zA2 BK356.out 1;have hfz4_2:=zA2 BK356.out 2;have hfz4_3:=zA2 BK356.out 3;have hfz4_4:=zA2 BK356.out 4;have hfz4_5:=zA2 BK356.out 5))
 (try simp only[Act.put,kA0,List.set_cons_zero,List.set_cons_succ])
 go_cut [5] (fun v5 wc=>∃(kq:Nat) (x5_1:Bool),v5=.bool x5_1∧Aside0 (metewandref13_level.j0 kq a0_0 x5_1=some r)∧Aside0 (kq≤k)∧Aside0 (wc.heap[gb356]?=some (.cells #[.int .i64 a0_0,.string a0_1,.string a0_2,.string a0_3,.int .i64 a0_4,(.slice A0_5 l0_5.length c0_5)] 31 (0,0)))∧Aside0 (Below w.heap.size w wc))
 case first =>
  have H:=HC2.out;clear HC2;by_cases c5:a0_0=13
  ·rw[kAa c5] at H;have c5b0:(a0_0==13)=true:=beq_iff_eq.mpr c5;have c5b1:(a0_0 != 13)=false:=bne_eq_false_iff_eq.mpr c5;clear c5
   (first | rw[c5b0] | (simp only[zAd,zAe];rw[c5b0]) | skip)
   have H':=Aside0.mk H;clear H;go_wp2
   go_meet
   case rel=>exact⟨_,((a0_0==13)),kDh,H',⟨by first | omega | exact kA2 _⟩,⟨by (with_reducible repeat (first | refine zAZ ?_ _ | refine zCG ?_ | refine zCa ?_ _));exact BK356.out⟩,⟨by repeat (first | (with_reducible first | exact HB.out | apply zAb | apply zA3 | apply zAc | refine zBj ?_ GE356.out) | exact HB.out)⟩⟩
  ·rw[kA9 c5] at H;have c5b0:(a0_0==13)=false:=beq_eq_false_iff_ne.mpr c5;have c5b1:(a0_0 != 13)=true:=bne_iff_ne.mpr c5
   (first | rw[c5b0] | (simp only[zAd,zAe];rw[c5b0]) | skip)
   by_cases c6:a0_0=12
   ·rw[kAa c6] at H;have c6b0:(a0_0==12)=true:=beq_iff_eq.mpr c6;have c6b1:(a0_0 != 12)=false:=bne_eq_false_iff_eq.mpr c6;clear c6;have H':=Aside0.mk H;clear H;go_wp2
    go_meet
    case rel=>exact⟨_,((a0_0==12)),kDh,H',⟨by first | omega | exact kA2 _⟩,⟨by (with_reducible repeat (first | refine zAZ ?_ _ | refine zCG ?_ | refine zCa ?_ _));exact BK356.out⟩,⟨by repeat (first | (with_reducible first | exact HB.out | apply zAb | apply zA3 | apply zAc | refine zBj ?_ GE356.out) | exact HB.out)⟩⟩
   ·rw[kA9 c6] at H;have c6b0:(a0_0==12)=false:=beq_eq_false_iff_ne.mpr c6;have c6b1:(a0_0 != 12)=true:=bne_iff_ne.mpr c6;by_cases c7:a0_0=10
    ·rw[kAa c7] at H;have c7b0:(a0_0==10)=true:=beq_iff_eq.mpr c7;have c7b1:(a0_0 != 10)=false:=bne_eq_false_iff_eq.mpr c7;clear c7;have H':=Aside0.mk H;clear H;go_wp2
     go_meet
     case rel=>exact⟨_,((a0_0==10)),kDh,H',⟨by first | omega | exact kA2 _⟩,⟨by (with_reducible repeat (first | refine zAZ ?_ _ | refine zCG ?_ | refine zCa ?_ _));exact BK356.out⟩,⟨by repeat (first | (with_reducible first | exact HB.out | apply zAb | apply zA3 | apply zAc | refine zBj ?_ GE356.out) | exact HB.out)⟩⟩
    ·rw[kA9 c7] at H;have c7b0:(a0_0==10)=false:=beq_eq_false_iff_ne.mpr c7;have c7b1:(a0_0 != 10)=true:=bne_iff_ne.mpr c7;have H':=Aside0.mk H;clear H;go_wp2
     go_meet
     case rel=>exact⟨_,((a0_0==11)),kDh,H',⟨by first | omega | exact kA2 _⟩,⟨by (with_reducible repeat (first | refine zAZ ?_ _ | refine zCG ?_ | refine zCa ?_ _));exact BK356.out⟩,⟨by repeat (first | (with_reducible first | exact HB.out | apply zAb | apply zA3 | apply zAc | refine zBj ?_ GE356.out) | exact HB.out)⟩⟩
 case rest =>
  clear HC2
  try clear c1
  try clear p2
  try clear c5
  try clear c5b0
  try clear c5b1
  try clear c6
  try clear c6b0
  try clear c6b1
  try clear c7
  try clear c7b0
  try clear c7b1
  try clear hcz4_0
  try clear hcz4_1
  try clear hcz4_2
  try clear hcz4_3
  try clear hcz4_4
  try clear hcz4_5
  try clear hfz4_0
  try clear hfz4_1
  try clear hfz4_2
  try clear hfz4_3
  try clear hfz4_4
  try clear hfz4_5
  obtain⟨kq,x5_1,rfl,HA,HJ1,BK356,HB⟩:=hcut
  cases kq with
  | zero=>exact absurd HA.out (by simp[metewandref13_level.j0])
  | succ kj1 =>
   have H:=HA.out;clear HA;simp only[metewandref13_level.j0] at H;by_cases c8:x5_1=true
   ·subst c8;have H1:(some 0)=some r:=by rw[kAa rfl] at H;exact H
    clear H;have H:=H1;clear H1;obtain rfl:=kAg H;go_wp2;go_ret;exact⟨by first | rfl | (simp[zAB,zAA]<;>rfl) | (simp[*,zAB,zAA]<;>rfl),by repeat (first | (with_reducible first | exact HB.out | apply zAb | apply zA3 | apply zAc | refine zBj ?_ GE356.out) | exact HB.out)⟩
   ·replace c8:=Bool.eq_false_iff.mpr c8;subst c8;have H1:(if a0_0=2 then (metewandref13_level.j1 kj1 a0_0 (a0_0==2)) else (if a0_0=3 then (metewandref13_level.j1 kj1 a0_0 (a0_0==3)) else (metewandref13_level.j1 kj1 a0_0 (a0_0==4))))=some r:=by rw[kA9 (show ¬(false=true) by decide)] at H;exact H
    clear H;have H:=H1;clear H1;have HC9:=Aside0.mk H;clear H
    go_upto_if 10 with (fail)
    go_cut [10] (fun v10 wc=>∃(kq:Nat) (x10_8:Bool),v10=.bool x10_8∧Aside0 (metewandref13_level.j1 kq a0_0 x10_8=some r)∧Aside0 (kq≤kj1)∧Aside0 (wc.heap[gb356]?=some (.cells #[.int .i64 a0_0,.string a0_1,.string a0_2,.string a0_3,.int .i64 a0_4,(.slice A0_5 l0_5.length c0_5)] 31 (0,0)))∧Aside0 (Below w.heap.size w wc))
    case first =>
     have H:=HC9.out;clear HC9;by_cases c10:a0_0=2
     ·rw[kAa c10] at H;have c10b0:(a0_0==2)=true:=beq_iff_eq.mpr c10;have c10b1:(a0_0 != 2)=false:=bne_eq_false_iff_eq.mpr c10;clear c10
      (first | rw[c10b0] | (simp only[zAd,zAe];rw[c10b0]) | skip)
      have H':=Aside0.mk H;clear H;go_wp2
      go_meet
      case rel=>exact⟨_,((a0_0==2)),kDh,H',⟨by have:=HJ1.out;first | omega | exact kA2 _⟩,⟨by (with_reducible repeat (first | refine zAZ ?_ _ | refine zCG ?_ | refine zCa ?_ _));exact BK356.out⟩,⟨by repeat (first | (with_reducible first | exact HB.out | apply zAb | apply zA3 | apply zAc | refine zBj ?_ GE356.out) | exact HB.out)⟩⟩
     ·rw[kA9 c10] at H;have c10b0:(a0_0==2)=false:=beq_eq_false_iff_ne.mpr c10;have c10b1:(a0_0 != 2)=true:=bne_iff_ne.mpr c10
      (first | rw[c10b0] | (simp only[zAd,zAe];rw[c10b0]) | skip)
      by_cases c11:a0_0=3
      ·rw[kAa c11] at H;have c11b0:(a0_0==3)=true:=beq_iff_eq.mpr c11;have c11b1:(a0_0 != 3)=false:=bne_eq_false_iff_eq.mpr c11;clear c11;have H':=Aside0.mk H;clear H;go_wp2
       go_meet
       case rel=>exact⟨_,((a0_0==3)),kDh,H',⟨by have:=HJ1.out;first | omega | exact kA2 _⟩,⟨by (with_reducible repeat (first | refine zAZ ?_ _ | refine zCG ?_ | refine zCa ?_ _));exact BK356.out⟩,⟨by repeat (first | (with_reducible first | exact HB.out | apply zAb | apply zA3 | apply zAc | refine zBj ?_ GE356.out) | exact HB.out)⟩⟩
      ·rw[kA9 c11] at H;have c11b0:(a0_0==3)=false:=beq_eq_false_iff_ne.mpr c11;have c11b1:(a0_0 != 3)=true:=bne_iff_ne.mpr c11;have H':=Aside0.mk H;clear H;go_wp2
       go_meet
       case rel=>exact⟨_,((a0_0==4)),kDh,H',⟨by have:=HJ1.out;first | omega | exact kA2 _⟩,⟨by (with_reducible repeat (first | refine zAZ ?_ _ | refine zCG ?_ | refine zCa ?_ _));exact BK356.out⟩,⟨by repeat (first | (with_reducible first | exact HB.out | apply zAb | apply zA3 | apply zAc | refine zBj ?_ GE356.out) | exact HB.out)⟩⟩
    case rest =>
     clear HC9
     try clear c1
     try clear p2
     try clear c5
     try clear c5b0
     try clear c5b1
     try clear c6
     try clear c6b0
     try clear c6b1
     try clear c7
     try clear c7b0
     try clear c7b1
     try clear c8
     try clear c10
     try clear c10b0
     try clear c10b1
     try clear c11
     try clear c11b0
     try clear c11b1
     try clear hcz4_0
     try clear hcz4_1
     try clear hcz4_2
     try clear hcz4_3
     try clear hcz4_4
     try clear hcz4_5
     try clear hfz4_0
     try clear hfz4_1
     try clear hfz4_2
     try clear hfz4_3
     try clear hfz4_4
     try clear hfz4_5
     try clear p2
     obtain⟨kq,x10_8,rfl,HA,HJ8,BK356,HB⟩:=hcut
     cases kq with
     | zero=>exact absurd HA.out (by simp[metewandref13_level.j1])
     | succ kj8 =>
      have H:=HA.out;clear HA;simp only[metewandref13_level.j1] at H;by_cases c12:x10_8=true
      ·subst c12;have H1:(some 1)=some r:=by rw[kAa rfl] at H;exact H
       clear H;have H:=H1;clear H1;obtain rfl:=kAg H;go_wp2;go_ret;exact⟨by first | rfl | (simp[zAB,zAA]<;>rfl) | (simp[*,zAB,zAA]<;>rfl),by repeat (first | (with_reducible first | exact HB.out | apply zAb | apply zA3 | apply zAc | refine zBj ?_ GE356.out) | exact HB.out)⟩
      ·replace c12:=Bool.eq_false_iff.mpr c12;subst c12;have H1:(if a0_0=5 then (metewandref13_level.j2 kj8 a0_0 (a0_0==5)) else (metewandref13_level.j2 kj8 a0_0 (a0_0==6)))=some r:=by rw[kA9 (show ¬(false=true) by decide)] at H;exact H
       clear H;have H:=H1;clear H1;have HC13:=Aside0.mk H;clear H
       go_upto_if 14 with (fail)
       go_cut [14] (fun v14 wc=>∃(kq:Nat) (x14_12:Bool),v14=.bool x14_12∧Aside0 (metewandref13_level.j2 kq a0_0 x14_12=some r)∧Aside0 (kq≤kj8)∧Aside0 (wc.heap[gb356]?=some (.cells #[.int .i64 a0_0,.string a0_1,.string a0_2,.string a0_3,.int .i64 a0_4,(.slice A0_5 l0_5.length c0_5)] 31 (0,0)))∧Aside0 (Below w.heap.size w wc))
       case first =>
        have H:=HC13.out;clear HC13;by_cases c14:a0_0=5
        ·rw[kAa c14] at H;have c14b0:(a0_0==5)=true:=beq_iff_eq.mpr c14;have c14b1:(a0_0 != 5)=false:=bne_eq_false_iff_eq.mpr c14;clear c14
         (first | rw[c14b0] | (simp only[zAd,zAe];rw[c14b0]) | skip)
         have H':=Aside0.mk H;clear H;go_wp2
         go_meet
         case rel=>exact⟨_,((a0_0==5)),kDh,H',⟨by have:=HJ1.out;have:=HJ8.out;first | omega | exact kA2 _⟩,⟨by (with_reducible repeat (first | refine zAZ ?_ _ | refine zCG ?_ | refine zCa ?_ _));exact BK356.out⟩,⟨by repeat (first | (with_reducible first | exact HB.out | apply zAb | apply zA3 | apply zAc | refine zBj ?_ GE356.out) | exact HB.out)⟩⟩
        ·rw[kA9 c14] at H;have c14b0:(a0_0==5)=false:=beq_eq_false_iff_ne.mpr c14;have c14b1:(a0_0 != 5)=true:=bne_iff_ne.mpr c14
         (first | rw[c14b0] | (simp only[zAd,zAe];rw[c14b0]) | skip)
         have H':=Aside0.mk H;clear H;go_wp2
         go_meet
         case rel=>exact⟨_,((a0_0==6)),kDh,H',⟨by have:=HJ1.out;have:=HJ8.out;first | omega | exact kA2 _⟩,⟨by (with_reducible repeat (first | refine zAZ ?_ _ | refine zCG ?_ | refine zCa ?_ _));exact BK356.out⟩,⟨by repeat (first | (with_reducible first | exact HB.out | apply zAb | apply zA3 | apply zAc | refine zBj ?_ GE356.out) | exact HB.out)⟩⟩
       case rest =>
        clear HC13
        try clear c1
        try clear p2
        try clear c5
        try clear c5b0
        try clear c5b1
        try clear c6
        try clear c6b0
        try clear c6b1
        try clear c7
        try clear c7b0
        try clear c7b1
        try clear c8
        try clear c10
        try clear c10b0
        try clear c10b1
        try clear c11
        try clear c11b0
        try clear c11b1
        try clear c12
        try clear c14
        try clear c14b0
        try clear c14b1
        try clear hcz4_0
        try clear hcz4_1
        try clear hcz4_2
        try clear hcz4_3
        try clear hcz4_4
        try clear hcz4_5
        try clear hfz4_0
        try clear hfz4_1
        try clear hfz4_2
        try clear hfz4_3
        try clear hfz4_4
        try clear hfz4_5
        try clear p2
        obtain⟨kq,x14_12,rfl,HA,HJ12,BK356,HB⟩:=hcut
        cases kq with
        | zero=>exact absurd HA.out (by simp[metewandref13_level.j2])
        | succ kj12 =>
         have H:=HA.out;clear HA;simp only[metewandref13_level.j2] at H;by_cases c15:x14_12=true
         ·subst c15;have H1:(some 2)=some r:=by rw[kAa rfl] at H;exact H
          clear H;have H:=H1;clear H1;obtain rfl:=kAg H;go_wp2;go_ret;exact⟨by first | rfl | (simp[zAB,zAA]<;>rfl) | (simp[*,zAB,zAA]<;>rfl),by repeat (first | (with_reducible first | exact HB.out | apply zAb | apply zA3 | apply zAc | refine zBj ?_ GE356.out) | exact HB.out)⟩
         ·replace c15:=Bool.eq_false_iff.mpr c15;subst c15;have H1:(if a0_0=7 then (some 3) else (some 4))=some r:=by rw[kA9 (show ¬(false=true) by decide)] at H;exact H
          clear H;have H:=H1;clear H1;by_cases c16:a0_0=7
          ·rw[kAa c16] at H;have c16b0:(a0_0==7)=true:=beq_iff_eq.mpr c16;have c16b1:(a0_0 != 7)=false:=bne_eq_false_iff_eq.mpr c16;clear c16;obtain rfl:=kAg H;go_wp2;go_ret;exact⟨by first | rfl | (simp[zAB,zAA]<;>rfl) | (simp[*,zAB,zAA]<;>rfl),by repeat (first | (with_reducible first | exact HB.out | apply zAb | apply zA3 | apply zAc | refine zBj ?_ GE356.out) | exact HB.out)⟩
          ·rw[kA9 c16] at H;have c16b0:(a0_0==7)=false:=beq_eq_false_iff_ne.mpr c16;have c16b1:(a0_0 != 7)=true:=bne_iff_ne.mpr c16;obtain rfl:=kAg H;go_wp2;go_ret;exact⟨by first | rfl | (simp[zAB,zAA]<;>rfl) | (simp[*,zAB,zAA]<;>rfl),by repeat (first | (with_reducible first | exact HB.out | apply zAb | apply zA3 | apply zAc | refine zBj ?_ GE356.out) | exact HB.out)⟩
end
end Go.Proofs.YtjaobihcdkjmbaaGreatDoor.PReadTokens
end
