/- What can be read as an expression is printed as a text that reads as the same, and is printed as itself: for every argument; a part of its proof. -/
import Derived.Test.YtjaobihcdkjmbaaGreatDoorDa
import Derived.Test.YtjaobihcdkjmbaaGreatDoorDb
import Derived.Test.YtjaobihcdkjmbaaGreatDoorD0
import Derived.Test.YtjaobihcdkjmbaaGreatDoorD7
import Derived.Test.YtjaobihcdkjmbaaGreatDoorD10
import Derived.Test.YtjaobihcdkjmbaaGreatDoorD11
import Derived.Test.YtjaobihcdkjmbaaGreatDoorD16
import Derived.Test.YtjaobihcdkjmbaaGreatDoorD17
import Derived.Test.YtjaobihcdkjmbaaGreatDoorD19
import Derived.Test.YtjaobihcdkjmbaaGreatDoorD20
import Derived.Test.YtjaobihcdkjmbaaGreatDoorD21
import Derived.Test.YtjaobihcdkjmbaaGreatDoorD23
import Derived.Test.YtjaobihcdkjmbaaGreatDoorD25
import Derived.Test.YtjaobihcdkjmbaaGreatDoorD26
set_option linter.unusedVariables false
set_option linter.unusedSimpArgs false
namespace Go.Proofs.YtjaobihcdkjmbaaGreatDoor.PReadTokens
end Go.Proofs.YtjaobihcdkjmbaaGreatDoor.PReadTokens
namespace Go.Proofs.YtjaobihcdkjmbaaGreatDoorW.PrintWords
end Go.Proofs.YtjaobihcdkjmbaaGreatDoorW.PrintWords
set_option maxRecDepth 100000
set_option maxHeartbeats 4000000
section
namespace Go.Proofs.YtjaobihcdkjmbaaGreatDoor
open Go.RowKit Go.Proofs.YtjaobihcdkjmbaaGreatDoorW.PrintWords Go.Proofs.YtjaobihcdkjmbaaGreatDoor.PReadTokens
theorem caught_nil (w:World):Calls Tryz.prog 63 #[.nilIface] w fun e w'=>e=.returned (.int .i64 0)∧w'=w:=by
 have hta:=zEQ;go_enter Tryz.func63,Tryz.ntmps63;go_wp2;go_ret;exact⟨rfl,rfl⟩
theorem catch62_idle (p:Nat) (old:Value) (w:World) (hp:w.heap[p]?=some (.cells #[old] 36 (0,0))) :
  CallsD Tryz.prog 62 #[.pointer (some ⟨p,0,none⟩)] .returning w fun e u' w'=>e=.returned (.tuple #[])∧u'=.returning∧w'=w.setCell ⟨p,0,none⟩ (.int .i64 0):=by
 have hta:=caught_nil w;have f0:=zA2 hp 0;have c0:=zA1 hp 0;refine kC5 Tryz.func62 rfl fun c₀ cs hu=>?_
 apply kCH;simp[wpOpsS,go_sem,recoverD,hu,Tryz.ntmps62,Exit.thenS];refine hta.mono ?_;rintro e w' ⟨rfl,hw⟩;subst w';simp[go_sem,c0,f0,Oper.upon,Result.andThen]
 cases c₀
 simp_all [bodyPostS,results,Tryz.results62]
mutual
/-- The first error in an expression that is inside of d others;0 if it has none. -/
noncomputable def zEs:Nat→S31→Int
 | d,⟨a,b,c,e,l⟩=>if 30≤d then 7 else if zEH ⟨a,b,c,e,l⟩≠0 then zEH ⟨a,b,c,e,l⟩ else zEr (d+1) l
noncomputable def zEr:Nat→List S31→Int
 | _,[]=>0
 | d,x :: l=>if zEs d x≠0 then zEs d x else zEr d l
end
theorem walkE_eq (d:Nat) (x:S31):zEs d x=if 30≤d then 7 else if zEH x≠0 then zEH x else zEr (d+1) x.f4:=by cases x;rw[zEs]
theorem walkL_drop (d:Nat) (l:List S31) (j:Nat) (h:j<l.length):zEr d (l.drop j)=if zEs d l[j]≠0 then zEs d l[j] else zEr d (l.drop (j+1)):=by
 rw[kAp h,zEr]
mutual
/-- The strings of an expression,and of all in it,are no great ones. -/
def szB:S31→Bool
 | ⟨_,b,c,_,l⟩=>decide (b.f0.size≤4611686018427387904)&&decide (b.f1.size≤4611686018427387904)&&decide (c.size≤4611686018427387904)&&szL l
def szL:List S31→Bool
 | []=>true
 | x :: l=>szB x&&szL l
end
theorem szB_eq (x:S31):szB x=(decide (x.f1.f0.size≤4611686018427387904)&&decide (x.f1.f1.size≤4611686018427387904)&&decide (x.f2.size≤4611686018427387904)&&szL x.f4):=by cases x;rfl
theorem szL_mem {l:List S31} (h:szL l=true) {x:S31} (hx:x∈l):szB x=true:=by
 induction l with
 | nil=>simp at hx
 | cons y l ih =>
  simp only[szL,kAo] at h;rcases kAO.1 hx with rfl | hx
  ·exact h.1
  ·exact ih h.2 hx
theorem sz_of {x:S31} (h:szB x=true):Sz x∧szL x.f4=true:=by
 rw[szB_eq] at h;simp only[kAo,kAU] at h;exact⟨⟨h.1.1.1,h.1.1.2,h.1.2⟩,h.2⟩
theorem walk_calls:∀(n:Nat) (x:S31) (d:Nat),zAI x≤n→d≤30→zAl x≤4611686018427387904→szB x=true→∀(v:Value) (w:World),Vw w x v→Start w →
  Calls Tryz.prog 64 #[v,.int .i64 d] w (zE9 (zEs d x) w):=by
 intro n
 induction n with
 | zero=>intro x d h;rw[zAw] at h;omega
 | succ n ih =>
  intro x d hd hd30 hn hsz v w hv hS;obtain⟨hz1,hz2⟩:=sz_of hsz;have hlook:=fun w' (hb:Below w.heap.size w w') (v':Value) (hv':Vw w' x v')=>look_calls x hz1 v' w' hv' (hS.below hb)
  obtain⟨A,c,rfl,hc1,hc2⟩:=hv.out;rw[zAw] at hd;rw[zB3] at hn;rw[walkE_eq];obtain⟨lk,hlk⟩:∃k,k=zEH x:=⟨_,rfl⟩;rw[← hlk] at hlook⊢;replace hlk:=kA1 hlk;have hrec:∀(j:Nat) (hj:j<x.f4.length),d<30→∀v w',Below w.heap.size w w'→Vw w' x.f4[j] v→Calls Tryz.prog 64 #[v,.int .i64 (d+1:Nat)] w' (zE9 (zEs (d+1) x.f4[j]) w'):=by
   intro j hj hdd v w' hb hv';have h1:=zBh (kAC hj);have h2:=zDh (kAC hj);exact ih _ _ kD4 kD4 kD4 (szL_mem hz2 (kAC hj)) v w' hv' (hS.below hb)
  have hlen:=zCB x.f4;have hv0:=hv;have hdrop:=walkL_drop (d+1) x.f4;obtain⟨f0,f1,f2,f3,xs⟩:=x;simp only at *;clear ih hv hz1 hz2 hsz hS;unfold exV at *;simp only at *;have HR:=kA1 hrec;have HL:=kA1 hlook;have HV:=kA1 hv0;have HC:=kA1 hc2;have HD:=kA1 hdrop;clear hrec hlook hv0 hc2 hdrop;have hb0:=(kA3 _ w).alloc (kA2 _) (.cells #[.int .i64 f0,.string f1.f0,.string f1.f1,.string f2,.int .i64 f3,.slice A xs.length c] 31);by_cases h30:30≤d
  ·rw[kAa h30];have hdl:decide (30≤(d:Int))=true:=kA8 kD4;clear h30;go_enter Tryz.func64,Tryz.ntmps64;go_wp2_with (go_at_call 67;(with_reducible refine (zAf _ _).mono ?_);rintro e wq ⟨rfl,hq⟩;subst wq);exact⟨rfl,hb0,.inr ⟨kD4,rfl⟩⟩
  rw[kA9 h30];have hdl:decide (30≤(d:Int))=false:=kAc kD4;obtain⟨R,hR⟩:∃R,R=if lk≠0 then lk else zEr (d+1) xs:=⟨_,rfl⟩
  rw[← hR];replace hR:=kA1 hR;go_enter Tryz.func64,Tryz.ntmps64;go_wp2_with (go_at_call 67;(with_reducible refine (zAs _ _).mono ?_);rintro e wq ⟨rfl,hq⟩;subst wq);refine (HL.out _ hb0 _ (HV.out.below ((kA3 _ w).alloc (kA2 _) _))).mono ?_;rintro e w1 ⟨hb1,hcase⟩;have hbw:=hb0.trans (hb1.mono kD6);rcases hcase.symm with⟨h0,he⟩ | ⟨h0,rfl⟩
  ·have hR2:Hid (R=lk):=kA1 (by rw[hR.out,kAa h0]);unfold zBv at he;subst he;replace h0:=kA1 h0;clear hR;go_wp2;exact⟨rfl,hbw,.inr ⟨by rw[hR2.out];exact h0.out,by rw[hR2.out];rfl⟩⟩
  replace hR:Hid (R=zEr (d+1) xs):=kA1 (by rw[hR.out,kA9 kD4]);clear h0;have hx1:=zAa hb1 (zA4 w (.cells #[.int .i64 f0,.string f1.f0,.string f1.f1,.string f2,.int .i64 f3,.slice A xs.length c] 31));obtain⟨⟨q0,q1,q2,q3,q4,q5⟩,_,xl⟩:=zA6 hx1;clear hx1 hb1;go_wp2;go_loopg [14] xs.length (fun k i wr=>∃j:Nat,j+k=xs.length∧i=.int .i64 j∧Below w.heap.size w wr∧Hid (R=zEr (d+1) (xs.drop j)))
  case atStart=>exact⟨0,kD4,rfl,hbw,by rw[kBZ];exact hR⟩
  case round =>
   clear hbw q0 q1 q2 q3 q4 q5 xl hR;obtain⟨j,hj,rfl,hat,HRj⟩:=hrel;by_cases hjl:j<xs.length
   ·obtain⟨ad,A5,c5,rfl,q0,q1,q2,q3,q4,q5,hvw⟩:=zAh (Kd.C_below HC.out hat) j hjl;have hr:=HR.out j hjl kD4;have hdj:=HD.out j hjl;generalize xs[j]=y at *;have Hvw:=kA1 hvw;have hd1:((d+1:Nat):Int)=(d:Int)+1:=kD4
    rw[hd1] at hr;obtain⟨m,hm⟩:∃m,m=zEs (d+1) y:=⟨_,rfl⟩;rw[← hm] at hr hdj;rw[hdj] at HRj;clear hvw hm hdj;go_wp2_with fail;refine (hr _ _ (hat.alloc hat.size _) (Hvw.out.below ((kA3 _ _).alloc (kA2 _) _))).mono ?_;rintro e w2 ⟨hb2,hcase⟩;have hat2:Below w.heap.size w w2:=(hat.alloc hat.size _).trans (hb2.mono (by simp;have:=hat.size;omega));clear hr;rcases hcase with⟨h0,rfl⟩ | ⟨h0,he⟩
    ·have HRj':Hid (R=zEr (d+1) (xs.drop (j+1))):=kA1 (by rw[HRj.out,kA9 kD4]);clear h0 HRj;go_wp2;go_roundg (gk-1)
     case measure=>omega
     case rel=>exact⟨j+1,zCL hj hjl,by go_num,hat2,HRj'⟩
    ·have HRj':Hid (R=m):=kA1 (by rw[HRj.out,kAa h0]);unfold zBv at he;subst he;replace h0:=kA1 h0;clear HRj;go_wp2;exact⟨rfl,hat2,.inr ⟨by rw[HRj'.out];exact h0.out,by rw[HRj'.out];rfl⟩⟩
   ·obtain rfl:j=xs.length:=kD4
    have HRj':Hid (R=0):=kA1 (by rw[HRj.out,kCP,zEr]);go_wp2;exact kBf (kB4 rfl _ _ _) rfl ⟨hat,.inl ⟨HRj'.out,rfl⟩⟩
noncomputable def chkE (x:S31):Int:=zEs 0 x
theorem zGo (x:S31) (hn:zAl x≤4611686018427387904) (hsz:szB x=true) (v:Value) (w:World) (hv:Vw w x v) (hS:Start w) :
  Calls Tryz.prog 27 #[v] w fun e w'=>e=.returned (.int .i64 (chkE x))∧Below w.heap.size w w':=by
 obtain⟨A,c,rfl,hc1,hc2⟩:=hv.out;have hmf:∀(fn:Fn) (first cap:Array Value) (w:World),(Instr.makeFunc fn first cap).run Tryz.prog w=.ok (.func fn first cap) w:=fun _ _ _ _=>rfl
 have hb0:∀o,Below w.heap.size w ((w.alloc o).alloc (.cells #[.int .i64 0] 36)):=fun o=>((kA3 _ w).alloc (kA2 _) _).alloc kD6 _
 have hw:=fun w' (hb:Below w.heap.size w w')=>walk_calls _ x 0 (kA2 _) kD4 hn hsz _ w' (hv.below hb) (hS.below hb)
 change ∀w',Below w.heap.size w w'→Calls Tryz.prog 64 #[_,.int .i64 0] w' (zE9 (chkE x) w') at hw;have hr0:∀o,((w.alloc o).alloc (.cells #[.int .i64 0] 36)).heap[w.heap.size+1]?=some (.cells #[.int .i64 0] 36 (0,0)):=fun o=>by have:=zA4 (w.alloc o) (.cells #[.int .i64 0] 36);rwa [kAw] at this
 generalize chkE x=n at *;have hge:=fun o=>(hS.below (hb0 o)).err
 obtain⟨f0,f1,f2,f3,xs⟩:=x;simp only at *;unfold exV at *;simp only at *;have HW:=kA1 hw;have HG:=kA1 hge;clear hw hv hS hc2 hge;go_enter_defers Tryz.func27,Tryz.ntmps27;go_wp2_with fail;refine (HW.out _ (hb0 _)).mono ?_;rintro e w1 ⟨hb1,hcase⟩;have hr1:=zAa hb1 (hr0 _);have hg1:=zA0 hb1 (HG.out _);have hbw:=(hb0 (.cells #[.int .i64 f0,.string f1.f0,.string f1.f1,.string f2,.int .i64 f3,.slice A xs.length c] 31)).trans (hb1.mono kD8);rcases hcase with⟨h0,rfl⟩ | ⟨h0,he⟩
 ·subst h0;have c1:=zA1 hr1 0;have f1':=zA2 hr1 0;go_wp2;have hr2:=zA8 hr1 0 (.int .i64 0);have hbw2:=hbw.setCell (p:=⟨w.heap.size+1,0,none⟩) kD6 (.int .i64 0);generalize w1.setCell ⟨w.heap.size+1,0,none⟩ (.int .i64 0)=w2 at *;refine kCk (f:=62) (args:=#[.pointer (some ⟨w.heap.size+1,0,none⟩)]) kD6 kDk ?_;refine (catch62_idle (w.heap.size+1) (.int .i64 0) w2 hr2).mono ?_;rintro e u w3 ⟨rfl,rfl,hw3⟩;have c4:w3.cell? ⟨w.heap.size+1,0,none⟩=some (.int .i64 0):=by rw[hw3];exact zA1 (zA8 hr2 0 (.int .i64 0)) 0
  have hfin:Below w.heap.size w w3:=by rw[hw3];exact hbw2.setCell (p:=⟨w.heap.size+1,0,none⟩) kD6 _
  simp[Leaves,settle,results,Tryz.results27,go_sem,c4,hfin]
 ·unfold zBv at he;subst he;clear h0;go_wp2;refine kCk (f:=62) (args:=#[.pointer (some ⟨w.heap.size+1,0,none⟩)]) kD6 kDk ?_;refine (catch62_hit (w.heap.size+1) n (.int .i64 0) [] w1 hr1 hg1).mono ?_;rintro e u w3 ⟨rfl,rfl,hs3,hg3⟩;have c4:w3.cell? ⟨w.heap.size+1,0,none⟩=some (.int .i64 n):=zA1 hs3 0;have hfin:Below w.heap.size w w3:=hbw.grown hg3 hbw.size (fun j e=>by injection e with e;omega);simp[Leaves,settle,results,Tryz.results27,go_sem,c4,hfin]
end Go.Proofs.YtjaobihcdkjmbaaGreatDoor
end
section
namespace Go.Proofs.YtjaobihcdkjmbaaGreatDoor
open Go.RowKit Go.Maps Go.WideShapes Go.Proofs.YtjaobihcdkjmbaaGreatDoorW.PrintWords Go.Proofs.YtjaobihcdkjmbaaGreatDoor.PReadTokens
theorem repl_all (B:S31→Prop) (p:Int→S28→ByteArray→Int→Nat→Prop) (hB:∀x,B x↔(p x.f0 x.f1 x.f2 x.f3 x.f4.length∧∀a∈x.f4,B a)) (name:ByteArray) (y:S31) (T:DataW Unit) (hy:B y) :
  ∀(n:Nat) (x z:S31),zAI x≤n→B x→replS name y T x=some z→B z:=by
 intro n
 induction n with
 | zero=>intro x z h;rw[zAw] at h;omega
 | succ n ih =>
  intro x z hd hx h;rw[zAw] at hd;rcases replS_cases h with⟨_,_,rfl⟩ | ⟨_,l',hl,rfl⟩
  ·exact hy
  ·have key:∀(l l':List S31) (i:Nat),(∀a∈l,zAI a≤n∧B a)→zED name y T x.f0 x.f2 i l=some l'→l'.length=l.length∧∀b∈l',B b:=by
    intro l
    induction l with
    | nil=>intro l' i _ h;rw[replL_nil] at h;injection h with h;subst h;exact⟨rfl,fun b hb=>by cases hb⟩
    | cons a l ih2 =>
     intro l' i hall h;obtain⟨b,r,rfl,hb,hr⟩:=replL_cons h;obtain⟨h1,h2⟩:=ih2 r (i+1) (fun c hc=>hall c (kAM _ hc)) hr;obtain⟨da,ba⟩:=hall a (kAQ ..);refine⟨by simp[h1],fun c hc=>?_⟩;rcases kAO.1 hc with rfl | hc
     ·rcases replOne_cases hb with⟨_,_,rfl⟩ | ⟨_,_,h5⟩
      ·exact ba
      ·exact ih a c da ba h5
     ·exact h2 c hc
   obtain⟨h1,h2⟩:=(hB x).1 hx;obtain⟨k1,k2⟩:=key x.f4 l' 0 (fun a ha=>⟨kDR,h2 a ha⟩) hl;exact (hB _).2 ⟨by simp only;rw[k1];exact h1,k2⟩
inductive OkX:S31→Prop
 | mk (x:S31) (h:zEH x=0) (hl:∀a∈x.f4,OkX a):OkX x
theorem walkL_zero (d:Nat):∀l:List S31,zEr d l=0↔∀a∈l,zEs d a=0
 | []=>by rw[zEr];simp
 | a :: l=>by
  rw[zEr];by_cases h:zEs d a=0
  ·rw[kA9 (by simp[h]),walkL_zero d l];simp[h]
  ·rw[kAa h];simp[h]
theorem depthL_le {l:List S31} {m:Nat} (h:∀a∈l,zAI a≤m):zBi l≤m:=by
 induction l with
 | nil=>simp[zBi]
 | cons a l ih =>
  have h1:=h a (kAQ ..);have h2:=ih (fun b hb=>h b (kAM _ hb));rw[zBi];omega
theorem walk_iff:∀(n:Nat) (x:S31) (d:Nat),zAI x≤n→(zEs d x=0↔(OkX x∧d+zAI x≤30)):=by
 intro n
 induction n with
 | zero=>intro x d h;rw[zAw] at h;omega
 | succ n ih =>
  intro x d hd;rw[zAw] at hd;have hi:∀a∈x.f4,(zEs (d+1) a=0↔(OkX a∧d+1+zAI a≤30)):=fun a ha=>ih a (d+1) kDR
  rw[walkE_eq];by_cases h30:30≤d
  ·rw[kAa h30];constructor
   ·intro h;omega
   ·rintro⟨_,h⟩;rw[zAw] at h;omega
  ·rw[kA9 h30];by_cases hl:zEH x=0
   ·rw[kA9 (by simp[hl]),walkL_zero];constructor
    ·intro h;refine⟨⟨_,hl,fun a ha=>((hi a ha).1 (h a ha)).1⟩,?_⟩;have:=depthL_le (m:=30-(d+1)) (fun a ha=>by have:=((hi a ha).1 (h a ha)).2;omega);rw[zAw];omega
    ·rintro⟨⟨_,_,hok⟩,hdd⟩ a ha;refine (hi a ha).2 ⟨hok a ha,?_⟩;have:=zBh ha;rw[zAw] at hdd;omega
   ·rw[kAa hl];constructor
    ·intro h;exact absurd h hl
    ·rintro⟨⟨_,h,_⟩,_⟩;exact absurd h hl
theorem zEn (x:S31):chkE x=0↔(OkX x∧zAI x≤30):=by
 have:=walk_iff _ x 0 (kA2 _);rw[kAv] at this;exact this
end Go.Proofs.YtjaobihcdkjmbaaGreatDoor
end
section
namespace Go.Proofs.YtjaobihcdkjmbaaGreatDoor
open Go.RowKit Go.Proofs.YtjaobihcdkjmbaaGreatDoorW.PrintWords Go.Proofs.YtjaobihcdkjmbaaGreatDoor.PReadTokens
def nodeG (op:Int) (num:S28) (name:ByteArray) (size:Int) (k:Nat):Prop :=
 (op=0∧chkR num=0∧negB num.f0=false∧(name=eB∨zCe name=true)∧size=0∧k=0) ∨
 (op=1∧num=z28∧zBQ name=true∧size=0∧k=0)∨(op=2∧num=z28∧name=eB∧size=0∧k=1) ∨
 ((op=3∨op=4∨op=5∨op=6∨op=9)∧num=z28∧name=eB∧size=0∧k=2)∨(op=7∧num=z28∧name=eB∧(-9≤size∧size≤9)∧k=1) ∨
 (op=8∧num=z28∧name=eB∧size=0∧(1≤k∧k≤8))∨((op=10∨op=11)∧num=z28∧zBQ name=true∧(1≤size∧size≤99)∧k=1) ∨
 (op=12∧num=z28∧name=eB∧size=0∧k=4)∨(op=13∧num=z28∧zBQ name=true∧size=0∧k=2)∨(op=14∧num=z28∧zBQ name=true∧size=0∧k≤8)
theorem look_node {op:Int} {num:S28} {name:ByteArray} {size:Int} {l:List S31} (h:nodeG op num name size l.length):zEH ⟨op,num,name,size,l⟩=0:=by
 unfold zEH midE tailE zGg;simp only;generalize l.length=k at *;rcases h with⟨rfl,h1,h2,h3,rfl,rfl⟩ | ⟨rfl,rfl,hn,rfl,rfl⟩ | ⟨rfl,rfl,rfl,rfl,rfl⟩ | ⟨ho,rfl,rfl,rfl,rfl⟩ | ⟨rfl,rfl,rfl,⟨hs0,hs1⟩,rfl⟩ | ⟨rfl,rfl,rfl,rfl,hk0,hk1⟩ | ⟨ho,rfl,hn,⟨hs0,hs1⟩,rfl⟩ | ⟨rfl,rfl,rfl,rfl,rfl⟩ | ⟨rfl,rfl,hn,rfl,rfl⟩ | ⟨rfl,rfl,hn,rfl,hk⟩
 ·rw[h1,h2];rcases h3 with rfl | h3
  ·simp[zBb,zBd,zAK,zAL]
  ·simp[zBb,zBd,zAK,zAL,h3]
 ·simp[zBb,zBd,zAK,zAL,hn]
 ·simp[zBb,zBd,zAK,zAL]
 ·rcases ho with rfl | rfl | rfl | rfl | rfl<;>simp[zBb,zBd,zAK,zAL]
 ·simp[zBb,zBd,zAK,zAL];omega
 ·simp[zBb,zBd,zAK,zAL];omega
 ·rcases ho with rfl | rfl<;>(simp[zBb,zBd,zAK,zAL,hn];omega)
 ·simp[zBb,zBd,zAK,zAL]
 ·simp[zBb,zBd,zAK,zAL,hn]
 ·simp[zBb,zBd,zAK,zAL,hn];omega
theorem zCT {x:S31} (h:zEH x=0):nodeG x.f0 x.f1 x.f2 x.f3 x.f4.length:=by
 obtain⟨op,num,name,size,l⟩:=x;unfold zEH midE tailE zGg at h;simp only at h⊢;generalize l.length=k at *;by_cases h0:op<0∨14<op
 ·rw[kAa h0] at h;cases h
 rw[kA9 h0] at h;by_cases h1:(k:Int)<zBb op
 ·rw[kAa h1] at h;cases h
 rw[kA9 h1] at h;by_cases h2:zBd op<(k:Int)
 ·rw[kAa h2] at h;cases h
 rw[kA9 h2] at h;have hop:op=0∨op=1∨op=2∨op=3∨op=4∨op=5∨op=6∨op=7∨op=8∨op=9∨op=10∨op=11∨op=12∨op=13∨op=14:=kD4
 unfold nodeG;rcases hop with rfl | rfl | rfl | rfl | rfl | rfl | rfl | rfl | rfl | rfl | rfl | rfl | rfl | rfl | rfl
 all_goals
  simp[zBb,zBd] at h1 h2;simp[zAK,zAL] at h
 ·obtain⟨a,b,c,d,e⟩:chkR num=0∧negB num.f0=false∧(name=eB∨zCe name=true)∧size=0∧k=0:=by
   by_cases c1:chkR num=0
   ·rw[kAa c1] at h
    cases c2:negB num.f0
    ·rw[c2] at h;simp only[kBu,kCL] at h;refine⟨c1,rfl,?_,?_,kD4⟩
     ·by_cases c3:name=eB
      ·exact .inl c3
      ·cases c4:zCe name
       ·rw[kAa ⟨c3,c4⟩] at h;cases h
       ·exact .inr rfl
     ·by_cases c3:¬name=eB∧zCe name=false
      ·rw[kAa c3] at h;cases h
      ·rw[kA9 c3] at h;omega
    ·rw[c2] at h;simp at h
   ·rw[kA9 c1] at h;exact absurd h c1
  simp[a,b,c,d,e]
 all_goals
  by_cases c1:num=z28
  ·subst c1;simp at h;by_cases c2:name=eB
   ·subst c2
    try simp at h
    try simp
    first
     | done
     | omega
     | (cases c3:zBQ eB<;>simp[c3] at h<;>simp<;>omega)
   ·try simp[c2] at h
    try simp
    try (cases c3:zBQ name<;>simp[c3] at h<;>simp[c2]<;>omega)
  ·simp[c1] at h
structure TkOk (t:Tk):Prop where
 name:t.1=0→zBQ t.2=true
 num:t.1=2→zCp t.2=true∧negB t.2=false∧t.2.size≤400
 unit:t.1=3→zCe t.2=true
def zBV {α:Type} (P:α→Prop) (r:RI α):Prop:=∀x n,r=.ok (x,n)→P x
theorem zAx {α β:Type} {P:α→Prop} {Q:β→Prop} {r:RI α} {f:α→Nat→RI β} (h:zBV P r) (hf:∀x n,P x→zBV Q (f x n)):zBV Q (zBM r f):=by
 cases r with
 | error j=>intro x n e;cases e
 | ok p=>exact hf p.1 p.2 (h p.1 p.2 rfl)
theorem zAG {α:Type} {P:α→Prop} {c:Prop} [Decidable c] {r s:RI α} (h1:c→zBV P r) (h2:¬c→zBV P s):zBV P (if c then r else s):=by
 by_cases h:c
 ·rw[kAa h];exact h1 h
 ·rw[kA9 h];exact h2 h
theorem zBF {α:Type} {P:α→Prop} (j:Nat):zBV P (.error j:RI α):=fun x n e=>by cases e
theorem zB8 {α:Type} {P:α→Prop} {x:α} {n:Nat} (h:P x):zBV P (.ok (x,n):RI α):=fun y m e=>by cases e;exact h
theorem zE6 {op:Int} {num:S28} {name:ByteArray} {size:Int} {l:List S31} (h:nodeG op num name size l.length) (hl:∀a∈l,OkX a):OkX ⟨op,num,name,size,l⟩:=⟨_,look_node h,hl⟩
abbrev sgTk (c:UInt8):Tk:=(4,⟨#[c]⟩)
def zE5 (lv want:Int) (t:List Tk):List Tk:=if lv<want then sgTk 40 :: (t++[sgTk 41]) else t
def zBC (ts:List (Int×List Tk)) (i:Nat) (want:Int):List Tk:=zE5 (ts.getD i (0,[])).1 want (ts.getD i (0,[])).2
def zCd:List (List Tk)→List Tk
 | []=>[]
 | [t]=>t
 | t :: u :: ts=>t++sgTk 44 :: zCd (u :: ts)
def zBN (n:Int):List Tk:=if n<0 then [sgTk 45,(2,ofR (-n))] else [(2,ofR n)]
def litTk (num:S28) (name:ByteArray):List Tk:=(2,num.f0) :: ((if num.f1.toList == [49] then [] else [sgTk 124,(2,num.f1)])++(if name.toList == [] then [] else [(3,name)]))
def openTOk (op:Int) (num:S28) (name:ByteArray) (size:Int) (ts:List (Int×List Tk)):List Tk :=
 if op=0 then litTk num name else
 if op=1 then [(0,name)] else
 if op=2 then sgTk 45 :: zBC ts 0 2 else
 if op=3 then zBC ts 0 1++sgTk 43 :: zBC ts 1 2 else
 if op=4 then zBC ts 0 1++sgTk 45 :: zBC ts 1 2 else
 if op=5 then zBC ts 0 2++sgTk 42 :: zBC ts 1 3 else
 if op=6 then zBC ts 0 2++sgTk 47 :: zBC ts 1 3 else
 if op=7 then zBC ts 0 4++sgTk 94 :: zBN size else
 if op=9 then zBC ts 0 4++sgTk 91 :: (zBC ts 1 0++[sgTk 93]) else
 if op=10 then (1,⟨#[116,97,98]⟩) :: (0,name) :: sgTk 60 :: (zBN size++sgTk 46 :: zBC ts 0 0) else
 if op=11 then (1,⟨#[115,117,109]⟩) :: (0,name) :: sgTk 60 :: (zBN size++sgTk 46 :: zBC ts 0 0) else
 if op=12 then (1,⟨#[105,102]⟩) :: (zBC ts 0 1++sgTk 60 :: (zBC ts 1 1++(1,⟨#[116,104,101,110]⟩) :: (zBC ts 2 0++(1,⟨#[101,108,115,101]⟩) :: zBC ts 3 0))) else
 if op=13 then (1,⟨#[108,101,116]⟩) :: (0,name) :: sgTk 61 :: (zBC ts 0 0++(1,⟨#[105,110]⟩) :: zBC ts 1 0) else
 if op=8 then sgTk 91 :: (zCd (ts.map fun p=>zE5 p.1 0 p.2)++[sgTk 93]) else
 (0,name) :: sgTk 40 :: (zCd (ts.map fun p=>zE5 p.1 0 p.2)++[sgTk 41])
mutual
def zAo:S31→List Tk
 | ⟨op,num,name,size,l⟩=>openTOk op num name size (zCy l)
def zCy:List S31→List (Int×List Tk)
 | []=>[]
 | x :: l=>(levR x.f0,zAo x) :: zCy l
end
def tkTk (x:S31) (want:Int):List Tk:=zE5 (levR x.f0) want (zAo x)
theorem zFb:∀l:List S31,(zCy l).map (fun p=>zE5 p.1 0 p.2)=l.map (fun y=>tkTk y 0)
 | []=>rfl
 | x :: l=>by
  unfold zCy;rw[kAh,kAh,zFb l];rfl
theorem lev_pos (op:Int):0≤levR op:=by
 unfold levR
 repeat' split
 all_goals omega
theorem zDA (x:S31):tkTk x 0=zAo x:=by
 unfold tkTk zE5;rw[kA9 (by have:=lev_pos x.f0;omega)]
theorem zDR {x:S31} {want:Int} (h:levR x.f0<want):tkTk x want=sgTk 40 :: (tkTk x 0++[sgTk 41]):=by
 rw[zDA];unfold tkTk zE5;rw[kAa h]
theorem zDc {x:S31} {want:Int} (h:want≤levR x.f0):tkTk x want=zAo x:=by
 unfold tkTk zE5;rw[kA9 kD4]
def Sees (st:Nat→Tk):Nat→List Tk→Prop
 | _,[]=>True
 | n,t :: l=>st n=t∧Sees st (n+1) l
theorem zBH {st:Nat→Tk}:∀(a b:List Tk) (n:Nat),Sees st n (a++b)↔Sees st n a∧Sees st (n+a.length) b:=by
 intro a
 induction a with
 | nil=>intro b n;simp[Sees]
 | cons t a ih =>
  intro b n;simp only[List.cons_append,Sees,ih,List.length_cons];rw[show n+1+a.length=n+(a.length+1) by omega];exact⟨fun⟨h1,h2,h3⟩=>⟨⟨h1,h2⟩,h3⟩,fun⟨⟨h1,h2⟩,h3⟩=>⟨h1,h2,h3⟩⟩
def skT (t:Tk) (x:ByteArray):Bool:=(t.1==4||t.1==1)&&t.2.data.toList==x.data.toList
theorem zBa (st:Nat→Tk) (n:Nat) (x:ByteArray):skI st n x=skT (st n) x:=by
 unfold skI skT;rw[kAV,kAV]
theorem skT_sg (c d:UInt8):skT (sgTk c) ⟨#[d]⟩=(c==d):=by simp[skT]
structure NA (t:Tk):Prop where
 unit:t.1≠3
 par:skT t ⟨#[40]⟩=false
 bar:skT t ⟨#[124]⟩=false
structure NP (t:Tk):Prop extends NA t where
 br:skT t ⟨#[91]⟩=false
 pow:skT t ⟨#[94]⟩=false
structure ND (t:Tk):Prop extends NP t where
 mul:skT t ⟨#[42]⟩=false
 div:skT t ⟨#[47]⟩=false
structure NS (t:Tk):Prop extends ND t where
 add:skT t ⟨#[43]⟩=false
 sub:skT t ⟨#[45]⟩=false
theorem ns_sg (c:UInt8) (h:c≠40∧c≠124∧c≠91∧c≠94∧c≠42∧c≠47∧c≠43∧c≠45):NS (sgTk c):=by
 obtain⟨h1,h2,h3,h4,h5,h6,h7,h8⟩:=h;refine⟨⟨⟨⟨by show (4:Int)≠3;decide,?_,?_⟩,?_,?_⟩,?_,?_⟩,?_,?_⟩
 all_goals (rw[skT_sg,kAd];assumption)
theorem nd_sg (c:UInt8) (h:c≠40∧c≠124∧c≠91∧c≠94∧c≠42∧c≠47):ND (sgTk c):=by
 obtain⟨h1,h2,h3,h4,h5,h6⟩:=h;refine⟨⟨⟨by show (4:Int)≠3;decide,?_,?_⟩,?_,?_⟩,?_,?_⟩
 all_goals (rw[skT_sg,kAd];assumption)
theorem np_sg (c:UInt8) (h:c≠40∧c≠124∧c≠91∧c≠94):NP (sgTk c):=by
 obtain⟨h1,h2,h3,h4⟩:=h;refine⟨⟨by show (4:Int)≠3;decide,?_,?_⟩,?_,?_⟩
 all_goals (rw[skT_sg,kAd];assumption)
theorem na_sg (c:UInt8) (h:c≠40∧c≠124):NA (sgTk c):=by
 obtain⟨h1,h2⟩:=h;refine⟨by show (4:Int)≠3;decide,?_,?_⟩
 all_goals (rw[skT_sg,kAd];assumption)
theorem skT_word (w:ByteArray) (c:UInt8) (h:w.data.toList≠[c]):skT (1,w) ⟨#[c]⟩=false:=by
 unfold skT;rw[kAT];exact .inr (by rw[kAd];exact h)
theorem ns_word (w:ByteArray) (h:1<w.data.toList.length):NS (1,w):=by
 have:∀c,skT (1,w) ⟨#[c]⟩=false:=fun c=>skT_word w c (fun e=>by rw[e] at h;simp at h)
 exact⟨⟨⟨⟨by show (1:Int)≠3;decide,this _,this _⟩,this _,this _⟩,this _,this _⟩,this _,this _⟩
theorem ns_end:NS ((-1,⟨#[]⟩):Tk):=⟨⟨⟨⟨kD7,rfl,rfl⟩,rfl,rfl⟩,rfl,rfl⟩,rfl,rfl⟩
theorem zFr {t:Tk} (x:ByteArray) (h1:t.1≠1) (h4:t.1≠4):skT t x=false:=by
 unfold skT;rw[kAd.2 h1,kAd.2 h4];rfl
def Head (t:Tk):Prop:=t.1=2∨t.1=0∨t=sgTk 40∨t=sgTk 91
theorem Head.sk {t:Tk} (h:Head t) (x:ByteArray) (hx:x.data.toList≠[40]∧x.data.toList≠[91]):skT t x=false:=by
 rcases h with h | h | rfl | rfl
 ·exact zFr x kD4 kD4
 ·exact zFr x kD4 kD4
 ·unfold skT;rw[kAT];exact .inr (by rw[kAd];exact fun e=>hx.1 e.symm)
 ·unfold skT;rw[kAT];exact .inr (by rw[kAd];exact fun e=>hx.2 e.symm)
theorem getD_args (l:List S31) (i:Nat) (h:i<l.length):(zCy l).getD i (0,[])=(levR l[i].f0,zAo l[i]):=by
 induction l generalizing i with
 | nil=>simp at h
 | cons x l ih =>
  unfold zCy
  cases i with
  | zero=>rfl
  | succ i=>exact ih i kDS
theorem argTk_eq (l:List S31) (i:Nat) (h:i<l.length) (want:Int):zBC (zCy l) i want=tkTk l[i] want:=by
 unfold zBC tkTk;rw[getD_args l i h]
theorem zDJ (x:S31):zAo x=openTOk x.f0 x.f1 x.f2 x.f3 (zCy x.f4):=by cases x;rfl
theorem head_open:∀(d:Nat) (x:S31),zAI x≤d→OkX x→2≤levR x.f0→∃t l,zAo x=t :: l∧Head t:=by
 intro d
 induction d with
 | zero=>intro x h;rw[zAw] at h;omega
 | succ d ih =>
  intro x hd hok hlev;obtain⟨_,hlook,hl⟩:=hok;have hn:=zCT hlook;rw[zAw] at hd;have harg:∀(h:0<x.f4.length) (want:Int),2≤want→∃t l,zBC (zCy x.f4) 0 want=t :: l∧Head t:=by
   intro h want hw;rw[argTk_eq _ 0 h];by_cases hlt:levR (x.f4[0]).f0<want
   ·rw[zDR hlt];exact⟨_,_,rfl,.inr (.inr (.inl rfl))⟩
   ·rw[zDc kD4];have:=zBh (kAC h);exact ih _ kD4 (hl _ (kAC h)) kD4
  rw[zDJ];obtain⟨op,num,name,size,l⟩:=x;simp only at hn hlev harg ⊢;have app:∀(a b:List Tk),(∃t l,a=t :: l∧Head t)→∃t l,a++b=t :: l∧Head t:=by
   rintro a b⟨t,l,rfl,h⟩;exact⟨t,l++b,rfl,h⟩
  rcases hn with⟨rfl,_,_,_,_,hk⟩ | ⟨rfl,_,_,_,hk⟩ | ⟨rfl,_,_,_,hk⟩ | ⟨ho,_,_,_,hk⟩ | ⟨rfl,_,_,_,hk⟩ | ⟨rfl,_,_,_,hk⟩ | ⟨ho,_,_,_,hk⟩ | ⟨rfl,_,_,_,hk⟩ | ⟨rfl,_,_,_,hk⟩ | ⟨rfl,_,_,_,hk⟩
  ·exact⟨_,_,rfl,.inl rfl⟩
  ·exact⟨_,_,rfl,.inr (.inl rfl)⟩
  ·exact absurd hlev kD7
  ·rcases ho with rfl | rfl | rfl | rfl | rfl
   ·exact absurd hlev kD7
   ·exact absurd hlev kD7
   ·exact app _ _ (harg kD4 2 kD4)
   ·exact app _ _ (harg kD4 2 kD4)
   ·exact app _ _ (harg kD4 4 kD4)
  ·exact app _ _ (harg kD4 4 kD4)
  ·exact⟨_,_,rfl,.inr (.inr (.inr rfl))⟩
  ·rcases ho with rfl | rfl<;>exact absurd hlev kD7
  ·exact absurd hlev kD7
  ·exact absurd hlev kD7
  ·exact⟨_,_,rfl,.inr (.inl rfl)⟩
theorem zBL (x:ByteArray) (l:List ByteArray):cat (x :: l)=x++cat l:=by
 apply kBG;apply kBx.1;rw[cat_data,kBP,Array.toList_append,cat_data];simp
theorem zBK (x:ByteArray):x++cat []=x:=by
 apply kBG;apply kBx.1;rw[kBP,Array.toList_append,cat_data];simp
theorem itoa_all:((List.range 109).all fun i=>decide (Lib.itoa ((i:Int)-9)=(ofR ((i:Int)-9)).data.toList))=true:=kD5
theorem itoa_ofR (n:Int) (h0:-9≤n) (h1:n≤99):(⟨(Lib.itoa n).toArray⟩:ByteArray)=ofR n:=by
 have:=kBo.1 itoa_all (n+9).toNat (kBY.2 kD4);rw[show ((((n+9).toNat:Nat):Int)-9)=n by omega,kAU] at this;exact kBG (kBx.1 (by simpa using this))
def zD5 (y:S31):Prop:=∀(v:Value) (w:World) (ls:Int),ls≤4→Vw w y v→Tab w→Calls Tryz.prog 58 #[v,.int .i64 ls] w fun e w'=>e=.returned (.string (zA7 y ls))∧Below w.heap.size w w'
theorem worded13 (num:S28) (name:ByteArray) (size:Int) (y0 y1:S31) (v:Value) (w:World) (hv:Vw w ⟨13,num,name,size,[y0,y1]⟩ v) (hsz:(zAr ⟨13,num,name,size,[y0,y1]⟩).size≤1000000000) (hT:Tab w)
  (hr0:zD5 y0) (hr1:zD5 y1) :
  Calls Tryz.prog 97 #[v] w fun e w'=>e=.returned (.string (zAr ⟨13,num,name,size,[y0,y1]⟩))∧Below w.heap.size w w':=by
 obtain⟨A,c,rfl,hc1,hc2⟩:=hv.out;simp only[List.length_cons,List.length_nil,kAv,Nat.reduceAdd] at hc1 hc2 hv ⊢;unfold exV at hv⊢;simp only at hv⊢;have hb0:=(kA3 w.heap.size w).alloc (kA2 _) (.cells #[.int .i64 13,.string num.f0,.string num.f1,.string name,.int .i64 size,.slice A 2 c] 150);obtain⟨ad,A5_0,c5_0,rfl,q0_0,q0_1,q0_2,q0_3,q0_4,q0_5,hvw0⟩:=zAh (xs:=[y0,y1]) (Kd.C_below hc2 hb0) 0 kD6;simp only[List.getElem_cons_zero,kAZ,kAH] at q0_0 q0_1 q0_2 q0_3 q0_4 q0_5 hvw0;obtain⟨ad1,A5_1,c5_1,had1,q1_0,q1_1,q1_2,q1_3,q1_4,q1_5,hvw1⟩:=zAh (xs:=[y0,y1]) (Kd.C_below hc2 hb0) 1 kD6;obtain rfl:ad=ad1:=by injection had1
 simp only[List.getElem_cons_succ,List.getElem_cons_zero,kBA,kB5] at q1_0 q1_1 q1_2 q1_3 q1_4 q1_5 hvw1;have hbl:=zA4 w (.cells #[.int .i64 13,.string num.f0,.string num.f1,.string name,.int .i64 size,.slice (some ad) 2 c] 150);obtain⟨⟨p0,p1,p2,p3,p4,p5⟩,_,xl⟩:=zA6 hbl;have HR0:=kA1 (fun W (hv:Vw W y0 (exV y0 (.slice A5_0 y0.f4.length c5_0))) (hb:Below w.heap.size w W)=>hr0 _ W 0 kD7 hv (hT.below hb));have HR1:=kA1 (fun W (hv:Vw W y1 (exV y1 (.slice A5_1 y1.f4.length c5_1))) (hb:Below w.heap.size w W)=>hr1 _ W 0 kD7 hv (hT.below hb));have hcat:cat [⟨#[108,101,116,32]⟩,name,⟨#[32,61,32]⟩,(zA7 y0 0),⟨#[32,105,110,32]⟩,(zA7 y1 0)]=zAr ⟨13,num,name,size,[y0,y1]⟩:=by
  simp only[zBL,zBK,← kAD];rfl
 obtain⟨r,hr⟩:∃r,r=zAr ⟨13,num,name,size,[y0,y1]⟩:=⟨_,rfl⟩;rw[← hr] at hcat hsz ⊢;have hj:=fun W:World=>zAQ W.heap.size [⟨#[108,101,116,32]⟩,name,⟨#[32,61,32]⟩,(zA7 y0 0),⟨#[32,105,110,32]⟩,(zA7 y1 0)] 9 _ (zA4 W _) kD6 kDl
 rw[hcat] at hj;simp only[List.length_cons,List.length_nil,kAv,Nat.reduceAdd,kAh,kAr] at hj;have HJ:=kA1 hj;clear hv hb0 hc1 hc2 hj hr hcat hsz hT hr0 hr1;generalize zA7 y0 0=t0 at *;generalize zA7 y1 0=t1 at *;have hkl:∀a b:World,Below a.heap.size a b→(a.cell? ⟨w.heap.size,3,none⟩=some (.string name)∧a.cell? ⟨w.heap.size,5,none⟩=some (.slice (some ad) 2 c)∧a.cell? ad=some (.int .i64 y0.f0)∧a.cell? ⟨ad.block,ad.off+1,none⟩=some (.string y0.f1.f0)∧a.cell? ⟨ad.block,ad.off+2,none⟩=some (.string y0.f1.f1)∧a.cell? ⟨ad.block,ad.off+3,none⟩=some (.string y0.f2)∧a.cell? ⟨ad.block,ad.off+4,none⟩=some (.int .i64 y0.f3)∧a.cell? ⟨ad.block,ad.off+5,none⟩=some (.slice A5_0 y0.f4.length c5_0)∧a.cell? ⟨ad.block,ad.off+6,none⟩=some (.int .i64 y1.f0)∧a.cell? ⟨ad.block,ad.off+6+1,none⟩=some (.string y1.f1.f0)∧a.cell? ⟨ad.block,ad.off+6+2,none⟩=some (.string y1.f1.f1)∧a.cell? ⟨ad.block,ad.off+6+3,none⟩=some (.string y1.f2)∧a.cell? ⟨ad.block,ad.off+6+4,none⟩=some (.int .i64 y1.f3)∧a.cell? ⟨ad.block,ad.off+6+5,none⟩=some (.slice A5_1 y1.f4.length c5_1))→(b.cell? ⟨w.heap.size,3,none⟩=some (.string name)∧b.cell? ⟨w.heap.size,5,none⟩=some (.slice (some ad) 2 c)∧b.cell? ad=some (.int .i64 y0.f0)∧b.cell? ⟨ad.block,ad.off+1,none⟩=some (.string y0.f1.f0)∧b.cell? ⟨ad.block,ad.off+2,none⟩=some (.string y0.f1.f1)∧b.cell? ⟨ad.block,ad.off+3,none⟩=some (.string y0.f2)∧b.cell? ⟨ad.block,ad.off+4,none⟩=some (.int .i64 y0.f3)∧b.cell? ⟨ad.block,ad.off+5,none⟩=some (.slice A5_0 y0.f4.length c5_0)∧b.cell? ⟨ad.block,ad.off+6,none⟩=some (.int .i64 y1.f0)∧b.cell? ⟨ad.block,ad.off+6+1,none⟩=some (.string y1.f1.f0)∧b.cell? ⟨ad.block,ad.off+6+2,none⟩=some (.string y1.f1.f1)∧b.cell? ⟨ad.block,ad.off+6+3,none⟩=some (.string y1.f2)∧b.cell? ⟨ad.block,ad.off+6+4,none⟩=some (.int .i64 y1.f3)∧b.cell? ⟨ad.block,ad.off+6+5,none⟩=some (.slice A5_1 y1.f4.length c5_1)):=fun a b hb ⟨h0,h1,h2,h3,h4,h5,h6,h7,h8,h9,h10,h11,h12,h13⟩ =>
  ⟨zA0 hb h0,zA0 hb h1,zA0 hb h2,zA0 hb h3,zA0 hb h4,zA0 hb h5,zA0 hb h6,zA0 hb h7,zA0 hb h8,zA0 hb h9,zA0 hb h10,zA0 hb h11,zA0 hb h12,zA0 hb h13⟩
 have HKL:=kA1 hkl;clear hkl;go_enter Tryz.func97,Tryz.ntmps97;go_wp2_with fail;have BW:=(kA3 w.heap.size w).alloc (kA2 _) (.cells #[.int .i64 13,.string num.f0,.string num.f1,.string name,.int .i64 size,.slice (some ad) 2 c] 150);generalize hX:w.alloc (.cells #[.int .i64 13,.string num.f0,.string num.f1,.string name,.int .i64 size,.slice (some ad) 2 c] 150)=X at *;have BW:=BW.drew;have K:=HKL.out X X.drew (kA3 _ X).drew ⟨p3,p5,q0_0,q0_1,q0_2,q0_3,q0_4,q0_5,q1_0,q1_1,q1_2,q1_3,q1_4,q1_5⟩;have V0:=hvw0.below (kA3 _ X).drew;have V1:=hvw1.below (kA3 _ X).drew;clear hbl p0 p1 p2 p3 p4 p5 xl hvw0 q0_0 q0_1 q0_2 q0_3 q0_4 q0_5 hvw1 q1_0 q1_1 q1_2 q1_3 q1_4 q1_5
 go_region_held3 (fun w':World=>w'.cell? ⟨w.heap.size,3,none⟩=some (.string name)∧w'.cell? ⟨w.heap.size,5,none⟩=some (.slice (some ad) 2 c)∧w'.cell? ad=some (.int .i64 y0.f0)∧w'.cell? ⟨ad.block,ad.off+1,none⟩=some (.string y0.f1.f0)∧w'.cell? ⟨ad.block,ad.off+2,none⟩=some (.string y0.f1.f1)∧w'.cell? ⟨ad.block,ad.off+3,none⟩=some (.string y0.f2)∧w'.cell? ⟨ad.block,ad.off+4,none⟩=some (.int .i64 y0.f3)∧w'.cell? ⟨ad.block,ad.off+5,none⟩=some (.slice A5_0 y0.f4.length c5_0)∧w'.cell? ⟨ad.block,ad.off+6,none⟩=some (.int .i64 y1.f0)∧w'.cell? ⟨ad.block,ad.off+6+1,none⟩=some (.string y1.f1.f0)∧w'.cell? ⟨ad.block,ad.off+6+2,none⟩=some (.string y1.f1.f1)∧w'.cell? ⟨ad.block,ad.off+6+3,none⟩=some (.string y1.f2)∧w'.cell? ⟨ad.block,ad.off+6+4,none⟩=some (.int .i64 y1.f3)∧w'.cell? ⟨ad.block,ad.off+6+5,none⟩=some (.slice A5_1 y1.f4.length c5_1)) (first | exact K | exact HKL.out _ _ ((kA3 _ _).alloc (kA2 _) _) K) (first | (go_at_call 58;refine (HR0.out _ V0 BW).mono ?_;rintro e wq ⟨rfl,hq⟩;clear HR0;have K:=HKL.out _ _ hq K;have V0:=V0.below hq;have V1:=V1.below hq;have BW:=BW.trans (hq.mono BW.size)) | (go_at_call 58;refine (HR1.out _ V1 BW).mono ?_;rintro e wq ⟨rfl,hq⟩;clear HR1;have K:=HKL.out _ _ hq K;have V0:=V0.below hq;have V1:=V1.below hq;have BW:=BW.trans (hq.mono BW.size)) | (go_at_call 98;refine (HJ.out _).mono ?_;rintro e wq ⟨rfl,hq⟩;have K:=HKL.out _ _ hq (HKL.out _ _ ((kA3 _ _).alloc (kA2 _) _) K);have BW:=(BW.alloc BW.size _).trans (hq.mono kDm)))
 all_goals
  go_wp2;go_ret;exact⟨rfl,BW⟩
theorem worded12 (num:S28) (name:ByteArray) (size:Int) (y0 y1 y2 y3:S31) (v:Value) (w:World) (hv:Vw w ⟨12,num,name,size,[y0,y1,y2,y3]⟩ v) (hsz:(zAr ⟨12,num,name,size,[y0,y1,y2,y3]⟩).size≤1000000000) (hT:Tab w)
  (hr0:zD5 y0) (hr1:zD5 y1) (hr2:zD5 y2) (hr3:zD5 y3) :
  Calls Tryz.prog 97 #[v] w fun e w'=>e=.returned (.string (zAr ⟨12,num,name,size,[y0,y1,y2,y3]⟩))∧Below w.heap.size w w':=by
 obtain⟨A,c,rfl,hc1,hc2⟩:=hv.out;simp only[List.length_cons,List.length_nil,kAv,Nat.reduceAdd] at hc1 hc2 hv ⊢;unfold exV at hv⊢;simp only at hv⊢;have hb0:=(kA3 w.heap.size w).alloc (kA2 _) (.cells #[.int .i64 12,.string num.f0,.string num.f1,.string name,.int .i64 size,.slice A 4 c] 150);obtain⟨ad,A5_0,c5_0,rfl,q0_0,q0_1,q0_2,q0_3,q0_4,q0_5,hvw0⟩:=zAh (xs:=[y0,y1,y2,y3]) (Kd.C_below hc2 hb0) 0 kD6;simp only[List.getElem_cons_zero,kAZ,kAH] at q0_0 q0_1 q0_2 q0_3 q0_4 q0_5 hvw0;obtain⟨ad1,A5_1,c5_1,had1,q1_0,q1_1,q1_2,q1_3,q1_4,q1_5,hvw1⟩:=zAh (xs:=[y0,y1,y2,y3]) (Kd.C_below hc2 hb0) 1 kD6;obtain rfl:ad=ad1:=by injection had1
 simp only[List.getElem_cons_succ,List.getElem_cons_zero,kBA,kB5] at q1_0 q1_1 q1_2 q1_3 q1_4 q1_5 hvw1;obtain⟨ad2,A5_2,c5_2,had2,q2_0,q2_1,q2_2,q2_3,q2_4,q2_5,hvw2⟩:=zAh (xs:=[y0,y1,y2,y3]) (Kd.C_below hc2 hb0) 2 kD6;obtain rfl:ad=ad2:=by injection had2
 simp only[List.getElem_cons_succ,List.getElem_cons_zero,Nat.reduceMul,kB5] at q2_0 q2_1 q2_2 q2_3 q2_4 q2_5 hvw2;obtain⟨ad3,A5_3,c5_3,had3,q3_0,q3_1,q3_2,q3_3,q3_4,q3_5,hvw3⟩:=zAh (xs:=[y0,y1,y2,y3]) (Kd.C_below hc2 hb0) 3 kD6;obtain rfl:ad=ad3:=by injection had3
 simp only[List.getElem_cons_succ,List.getElem_cons_zero,Nat.reduceMul,kB5] at q3_0 q3_1 q3_2 q3_3 q3_4 q3_5 hvw3;have hbl:=zA4 w (.cells #[.int .i64 12,.string num.f0,.string num.f1,.string name,.int .i64 size,.slice (some ad) 4 c] 150);obtain⟨⟨p0,p1,p2,p3,p4,p5⟩,_,xl⟩:=zA6 hbl;have HR0:=kA1 (fun W (hv:Vw W y0 (exV y0 (.slice A5_0 y0.f4.length c5_0))) (hb:Below w.heap.size w W)=>hr0 _ W 1 kD7 hv (hT.below hb));have HR1:=kA1 (fun W (hv:Vw W y1 (exV y1 (.slice A5_1 y1.f4.length c5_1))) (hb:Below w.heap.size w W)=>hr1 _ W 1 kD7 hv (hT.below hb));have HR2:=kA1 (fun W (hv:Vw W y2 (exV y2 (.slice A5_2 y2.f4.length c5_2))) (hb:Below w.heap.size w W)=>hr2 _ W 0 kD7 hv (hT.below hb));have HR3:=kA1 (fun W (hv:Vw W y3 (exV y3 (.slice A5_3 y3.f4.length c5_3))) (hb:Below w.heap.size w W)=>hr3 _ W 0 kD7 hv (hT.below hb));have hcat:cat [⟨#[105,102,32]⟩,(zA7 y0 1),⟨#[32,60,32]⟩,(zA7 y1 1),⟨#[32,116,104,101,110,32]⟩,(zA7 y2 0),⟨#[32,101,108,115,101,32]⟩,(zA7 y3 0)]=zAr ⟨12,num,name,size,[y0,y1,y2,y3]⟩:=by
  simp only[zBL,zBK,← kAD];rfl
 obtain⟨r,hr⟩:∃r,r=zAr ⟨12,num,name,size,[y0,y1,y2,y3]⟩:=⟨_,rfl⟩;rw[← hr] at hcat hsz ⊢;have hj:=fun W:World=>zAQ W.heap.size [⟨#[105,102,32]⟩,(zA7 y0 1),⟨#[32,60,32]⟩,(zA7 y1 1),⟨#[32,116,104,101,110,32]⟩,(zA7 y2 0),⟨#[32,101,108,115,101,32]⟩,(zA7 y3 0)] 9 _ (zA4 W _) kD6 kDl
 rw[hcat] at hj;simp only[List.length_cons,List.length_nil,kAv,Nat.reduceAdd,kAh,kAr] at hj;have HJ:=kA1 hj;clear hv hb0 hc1 hc2 hj hr hcat hsz hT hr0 hr1 hr2 hr3;generalize zA7 y0 1=t0 at *;generalize zA7 y1 1=t1 at *;generalize zA7 y2 0=t2 at *;generalize zA7 y3 0=t3 at *;have hkl:∀a b:World,Below a.heap.size a b→(a.cell? ⟨w.heap.size,5,none⟩=some (.slice (some ad) 4 c)∧a.cell? ad=some (.int .i64 y0.f0)∧a.cell? ⟨ad.block,ad.off+1,none⟩=some (.string y0.f1.f0)∧a.cell? ⟨ad.block,ad.off+2,none⟩=some (.string y0.f1.f1)∧a.cell? ⟨ad.block,ad.off+3,none⟩=some (.string y0.f2)∧a.cell? ⟨ad.block,ad.off+4,none⟩=some (.int .i64 y0.f3)∧a.cell? ⟨ad.block,ad.off+5,none⟩=some (.slice A5_0 y0.f4.length c5_0)∧a.cell? ⟨ad.block,ad.off+6,none⟩=some (.int .i64 y1.f0)∧a.cell? ⟨ad.block,ad.off+6+1,none⟩=some (.string y1.f1.f0)∧a.cell? ⟨ad.block,ad.off+6+2,none⟩=some (.string y1.f1.f1)∧a.cell? ⟨ad.block,ad.off+6+3,none⟩=some (.string y1.f2)∧a.cell? ⟨ad.block,ad.off+6+4,none⟩=some (.int .i64 y1.f3)∧a.cell? ⟨ad.block,ad.off+6+5,none⟩=some (.slice A5_1 y1.f4.length c5_1)∧a.cell? ⟨ad.block,ad.off+12,none⟩=some (.int .i64 y2.f0)∧a.cell? ⟨ad.block,ad.off+12+1,none⟩=some (.string y2.f1.f0)∧a.cell? ⟨ad.block,ad.off+12+2,none⟩=some (.string y2.f1.f1)∧a.cell? ⟨ad.block,ad.off+12+3,none⟩=some (.string y2.f2)∧a.cell? ⟨ad.block,ad.off+12+4,none⟩=some (.int .i64 y2.f3)∧a.cell? ⟨ad.block,ad.off+12+5,none⟩=some (.slice A5_2 y2.f4.length c5_2)∧a.cell? ⟨ad.block,ad.off+18,none⟩=some (.int .i64 y3.f0)∧a.cell? ⟨ad.block,ad.off+18+1,none⟩=some (.string y3.f1.f0)∧a.cell? ⟨ad.block,ad.off+18+2,none⟩=some (.string y3.f1.f1)∧a.cell? ⟨ad.block,ad.off+18+3,none⟩=some (.string y3.f2)∧a.cell? ⟨ad.block,ad.off+18+4,none⟩=some (.int .i64 y3.f3)∧a.cell? ⟨ad.block,ad.off+18+5,none⟩=some (.slice A5_3 y3.f4.length c5_3))→(b.cell? ⟨w.heap.size,5,none⟩=some (.slice (some ad) 4 c)∧b.cell? ad=some (.int .i64 y0.f0)∧b.cell? ⟨ad.block,ad.off+1,none⟩=some (.string y0.f1.f0)∧b.cell? ⟨ad.block,ad.off+2,none⟩=some (.string y0.f1.f1)∧b.cell? ⟨ad.block,ad.off+3,none⟩=some (.string y0.f2)∧b.cell? ⟨ad.block,ad.off+4,none⟩=some (.int .i64 y0.f3)∧b.cell? ⟨ad.block,ad.off+5,none⟩=some (.slice A5_0 y0.f4.length c5_0)∧b.cell? ⟨ad.block,ad.off+6,none⟩=some (.int .i64 y1.f0)∧b.cell? ⟨ad.block,ad.off+6+1,none⟩=some (.string y1.f1.f0)∧b.cell? ⟨ad.block,ad.off+6+2,none⟩=some (.string y1.f1.f1)∧b.cell? ⟨ad.block,ad.off+6+3,none⟩=some (.string y1.f2)∧b.cell? ⟨ad.block,ad.off+6+4,none⟩=some (.int .i64 y1.f3)∧b.cell? ⟨ad.block,ad.off+6+5,none⟩=some (.slice A5_1 y1.f4.length c5_1)∧b.cell? ⟨ad.block,ad.off+12,none⟩=some (.int .i64 y2.f0)∧b.cell? ⟨ad.block,ad.off+12+1,none⟩=some (.string y2.f1.f0)∧b.cell? ⟨ad.block,ad.off+12+2,none⟩=some (.string y2.f1.f1)∧b.cell? ⟨ad.block,ad.off+12+3,none⟩=some (.string y2.f2)∧b.cell? ⟨ad.block,ad.off+12+4,none⟩=some (.int .i64 y2.f3)∧b.cell? ⟨ad.block,ad.off+12+5,none⟩=some (.slice A5_2 y2.f4.length c5_2)∧b.cell? ⟨ad.block,ad.off+18,none⟩=some (.int .i64 y3.f0)∧b.cell? ⟨ad.block,ad.off+18+1,none⟩=some (.string y3.f1.f0)∧b.cell? ⟨ad.block,ad.off+18+2,none⟩=some (.string y3.f1.f1)∧b.cell? ⟨ad.block,ad.off+18+3,none⟩=some (.string y3.f2)∧b.cell? ⟨ad.block,ad.off+18+4,none⟩=some (.int .i64 y3.f3)∧b.cell? ⟨ad.block,ad.off+18+5,none⟩=some (.slice A5_3 y3.f4.length c5_3)):=fun a b hb ⟨h0,h1,h2,h3,h4,h5,h6,h7,h8,h9,h10,h11,h12,h13,h14,h15,h16,h17,h18,h19,h20,h21,h22,h23,h24⟩ =>
  ⟨zA0 hb h0,zA0 hb h1,zA0 hb h2,zA0 hb h3,zA0 hb h4,zA0 hb h5,zA0 hb h6,zA0 hb h7,zA0 hb h8,zA0 hb h9,zA0 hb h10,zA0 hb h11,zA0 hb h12,zA0 hb h13,zA0 hb h14,zA0 hb h15,zA0 hb h16,zA0 hb h17,zA0 hb h18,zA0 hb h19,zA0 hb h20,zA0 hb h21,zA0 hb h22,zA0 hb h23,zA0 hb h24⟩
 have HKL:=kA1 hkl;clear hkl;go_enter Tryz.func97,Tryz.ntmps97;go_wp2_with fail;have BW:=(kA3 w.heap.size w).alloc (kA2 _) (.cells #[.int .i64 12,.string num.f0,.string num.f1,.string name,.int .i64 size,.slice (some ad) 4 c] 150);generalize hX:w.alloc (.cells #[.int .i64 12,.string num.f0,.string num.f1,.string name,.int .i64 size,.slice (some ad) 4 c] 150)=X at *;have BW:=BW.drew;have K:=HKL.out X X.drew (kA3 _ X).drew ⟨p5,q0_0,q0_1,q0_2,q0_3,q0_4,q0_5,q1_0,q1_1,q1_2,q1_3,q1_4,q1_5,q2_0,q2_1,q2_2,q2_3,q2_4,q2_5,q3_0,q3_1,q3_2,q3_3,q3_4,q3_5⟩;have V0:=hvw0.below (kA3 _ X).drew;have V1:=hvw1.below (kA3 _ X).drew;have V2:=hvw2.below (kA3 _ X).drew;have V3:=hvw3.below (kA3 _ X).drew;clear hbl p0 p1 p2 p3 p4 p5 xl hvw0 q0_0 q0_1 q0_2 q0_3 q0_4 q0_5 hvw1 q1_0 q1_1 q1_2 q1_3 q1_4 q1_5 hvw2 q2_0 q2_1 q2_2 q2_3 q2_4 q2_5 hvw3 q3_0 q3_1 q3_2 q3_3 q3_4 q3_5
 go_region_held3 (fun w':World=>w'.cell? ⟨w.heap.size,5,none⟩=some (.slice (some ad) 4 c)∧w'.cell? ad=some (.int .i64 y0.f0)∧w'.cell? ⟨ad.block,ad.off+1,none⟩=some (.string y0.f1.f0)∧w'.cell? ⟨ad.block,ad.off+2,none⟩=some (.string y0.f1.f1)∧w'.cell? ⟨ad.block,ad.off+3,none⟩=some (.string y0.f2)∧w'.cell? ⟨ad.block,ad.off+4,none⟩=some (.int .i64 y0.f3)∧w'.cell? ⟨ad.block,ad.off+5,none⟩=some (.slice A5_0 y0.f4.length c5_0)∧w'.cell? ⟨ad.block,ad.off+6,none⟩=some (.int .i64 y1.f0)∧w'.cell? ⟨ad.block,ad.off+6+1,none⟩=some (.string y1.f1.f0)∧w'.cell? ⟨ad.block,ad.off+6+2,none⟩=some (.string y1.f1.f1)∧w'.cell? ⟨ad.block,ad.off+6+3,none⟩=some (.string y1.f2)∧w'.cell? ⟨ad.block,ad.off+6+4,none⟩=some (.int .i64 y1.f3)∧w'.cell? ⟨ad.block,ad.off+6+5,none⟩=some (.slice A5_1 y1.f4.length c5_1)∧w'.cell? ⟨ad.block,ad.off+12,none⟩=some (.int .i64 y2.f0)∧w'.cell? ⟨ad.block,ad.off+12+1,none⟩=some (.string y2.f1.f0)∧w'.cell? ⟨ad.block,ad.off+12+2,none⟩=some (.string y2.f1.f1)∧w'.cell? ⟨ad.block,ad.off+12+3,none⟩=some (.string y2.f2)∧w'.cell? ⟨ad.block,ad.off+12+4,none⟩=some (.int .i64 y2.f3)∧w'.cell? ⟨ad.block,ad.off+12+5,none⟩=some (.slice A5_2 y2.f4.length c5_2)∧w'.cell? ⟨ad.block,ad.off+18,none⟩=some (.int .i64 y3.f0)∧w'.cell? ⟨ad.block,ad.off+18+1,none⟩=some (.string y3.f1.f0)∧w'.cell? ⟨ad.block,ad.off+18+2,none⟩=some (.string y3.f1.f1)∧w'.cell? ⟨ad.block,ad.off+18+3,none⟩=some (.string y3.f2)∧w'.cell? ⟨ad.block,ad.off+18+4,none⟩=some (.int .i64 y3.f3)∧w'.cell? ⟨ad.block,ad.off+18+5,none⟩=some (.slice A5_3 y3.f4.length c5_3)) (first | exact K | exact HKL.out _ _ ((kA3 _ _).alloc (kA2 _) _) K) (first | (go_at_call 58;refine (HR0.out _ V0 BW).mono ?_;rintro e wq ⟨rfl,hq⟩;clear HR0;have K:=HKL.out _ _ hq K;have V0:=V0.below hq;have V1:=V1.below hq;have V2:=V2.below hq;have V3:=V3.below hq;have BW:=BW.trans (hq.mono BW.size)) | (go_at_call 58;refine (HR1.out _ V1 BW).mono ?_;rintro e wq ⟨rfl,hq⟩;clear HR1;have K:=HKL.out _ _ hq K;have V0:=V0.below hq;have V1:=V1.below hq;have V2:=V2.below hq;have V3:=V3.below hq;have BW:=BW.trans (hq.mono BW.size)) | (go_at_call 58;refine (HR2.out _ V2 BW).mono ?_;rintro e wq ⟨rfl,hq⟩;clear HR2;have K:=HKL.out _ _ hq K;have V0:=V0.below hq;have V1:=V1.below hq;have V2:=V2.below hq;have V3:=V3.below hq;have BW:=BW.trans (hq.mono BW.size)) | (go_at_call 58;refine (HR3.out _ V3 BW).mono ?_;rintro e wq ⟨rfl,hq⟩;clear HR3;have K:=HKL.out _ _ hq K;have V0:=V0.below hq;have V1:=V1.below hq;have V2:=V2.below hq;have V3:=V3.below hq;have BW:=BW.trans (hq.mono BW.size)) | (go_at_call 98;refine (HJ.out _).mono ?_;rintro e wq ⟨rfl,hq⟩;have K:=HKL.out _ _ hq (HKL.out _ _ ((kA3 _ _).alloc (kA2 _) _) K);have BW:=(BW.alloc BW.size _).trans (hq.mono kDm)))
 all_goals
  go_wp2;go_ret;exact⟨rfl,BW⟩
theorem worded10 (num:S28) (name:ByteArray) (size:Int) (y0:S31) (v:Value) (w:World) (hv:Vw w ⟨10,num,name,size,[y0]⟩ v) (hsz:(zAr ⟨10,num,name,size,[y0]⟩).size≤1000000000) (hT:Tab w) (hz0:-9≤size) (hz1:size≤99)
  (hr0:zD5 y0) :
  Calls Tryz.prog 97 #[v] w fun e w'=>e=.returned (.string (zAr ⟨10,num,name,size,[y0]⟩))∧Below w.heap.size w w':=by
 obtain⟨A,c,rfl,hc1,hc2⟩:=hv.out;simp only[List.length_cons,List.length_nil,kAv,Nat.reduceAdd] at hc1 hc2 hv ⊢;unfold exV at hv⊢;simp only at hv⊢;have hb0:=(kA3 w.heap.size w).alloc (kA2 _) (.cells #[.int .i64 10,.string num.f0,.string num.f1,.string name,.int .i64 size,.slice A 1 c] 150);obtain⟨ad,A5_0,c5_0,rfl,q0_0,q0_1,q0_2,q0_3,q0_4,q0_5,hvw0⟩:=zAh (xs:=[y0]) (Kd.C_below hc2 hb0) 0 kD6;simp only[List.getElem_cons_zero,kAZ,kAH] at q0_0 q0_1 q0_2 q0_3 q0_4 q0_5 hvw0;have hbl:=zA4 w (.cells #[.int .i64 10,.string num.f0,.string num.f1,.string name,.int .i64 size,.slice (some ad) 1 c] 150);obtain⟨⟨p0,p1,p2,p3,p4,p5⟩,_,xl⟩:=zA6 hbl;have HR0:=kA1 (fun W (hv:Vw W y0 (exV y0 (.slice A5_0 y0.f4.length c5_0))) (hb:Below w.heap.size w W)=>hr0 _ W 0 kD7 hv (hT.below hb));have HZ:=kA1 (fun W (hb:Below w.heap.size w W)=>zF5 size kD4 kD4 W (hT.below hb));have hcat:cat [⟨#[116,97,98,32]⟩,name,⟨#[32,60,32]⟩,⟨(Lib.itoa size).toArray⟩,⟨#[32,46,32]⟩,(zA7 y0 0)]=zAr ⟨10,num,name,size,[y0]⟩:=by
  rw[itoa_ofR size hz0 hz1];simp only[zBL,zBK,← kAD];rfl
 obtain⟨r,hr⟩:∃r,r=zAr ⟨10,num,name,size,[y0]⟩:=⟨_,rfl⟩;rw[← hr] at hcat hsz ⊢;have hj:=fun W:World=>zAQ W.heap.size [⟨#[116,97,98,32]⟩,name,⟨#[32,60,32]⟩,⟨(Lib.itoa size).toArray⟩,⟨#[32,46,32]⟩,(zA7 y0 0)] 9 _ (zA4 W _) kD6 kDl
 rw[hcat] at hj;simp only[List.length_cons,List.length_nil,kAv,Nat.reduceAdd,kAh,kAr] at hj;have HJ:=kA1 hj;clear hv hb0 hc1 hc2 hj hr hcat hsz hT hr0;generalize zA7 y0 0=t0 at *;generalize (⟨(Lib.itoa size).toArray⟩:ByteArray)=tz at *;have hkl:∀a b:World,Below a.heap.size a b→(a.cell? ⟨w.heap.size,3,none⟩=some (.string name)∧a.cell? ⟨w.heap.size,4,none⟩=some (.int .i64 size)∧a.cell? ⟨w.heap.size,5,none⟩=some (.slice (some ad) 1 c)∧a.cell? ad=some (.int .i64 y0.f0)∧a.cell? ⟨ad.block,ad.off+1,none⟩=some (.string y0.f1.f0)∧a.cell? ⟨ad.block,ad.off+2,none⟩=some (.string y0.f1.f1)∧a.cell? ⟨ad.block,ad.off+3,none⟩=some (.string y0.f2)∧a.cell? ⟨ad.block,ad.off+4,none⟩=some (.int .i64 y0.f3)∧a.cell? ⟨ad.block,ad.off+5,none⟩=some (.slice A5_0 y0.f4.length c5_0))→(b.cell? ⟨w.heap.size,3,none⟩=some (.string name)∧b.cell? ⟨w.heap.size,4,none⟩=some (.int .i64 size)∧b.cell? ⟨w.heap.size,5,none⟩=some (.slice (some ad) 1 c)∧b.cell? ad=some (.int .i64 y0.f0)∧b.cell? ⟨ad.block,ad.off+1,none⟩=some (.string y0.f1.f0)∧b.cell? ⟨ad.block,ad.off+2,none⟩=some (.string y0.f1.f1)∧b.cell? ⟨ad.block,ad.off+3,none⟩=some (.string y0.f2)∧b.cell? ⟨ad.block,ad.off+4,none⟩=some (.int .i64 y0.f3)∧b.cell? ⟨ad.block,ad.off+5,none⟩=some (.slice A5_0 y0.f4.length c5_0)):=fun a b hb ⟨h0,h1,h2,h3,h4,h5,h6,h7,h8⟩ =>
  ⟨zA0 hb h0,zA0 hb h1,zA0 hb h2,zA0 hb h3,zA0 hb h4,zA0 hb h5,zA0 hb h6,zA0 hb h7,zA0 hb h8⟩
 have HKL:=kA1 hkl;clear hkl;go_enter Tryz.func97,Tryz.ntmps97;go_wp2_with fail;have BW:=(kA3 w.heap.size w).alloc (kA2 _) (.cells #[.int .i64 10,.string num.f0,.string num.f1,.string name,.int .i64 size,.slice (some ad) 1 c] 150);generalize hX:w.alloc (.cells #[.int .i64 10,.string num.f0,.string num.f1,.string name,.int .i64 size,.slice (some ad) 1 c] 150)=X at *;have BW:=BW.drew;have K:=HKL.out X X.drew (kA3 _ X).drew ⟨p3,p4,p5,q0_0,q0_1,q0_2,q0_3,q0_4,q0_5⟩;have V0:=hvw0.below (kA3 _ X).drew;clear hbl p0 p1 p2 p3 p4 p5 xl hvw0 q0_0 q0_1 q0_2 q0_3 q0_4 q0_5
 go_region_held3 (fun w':World=>w'.cell? ⟨w.heap.size,3,none⟩=some (.string name)∧w'.cell? ⟨w.heap.size,4,none⟩=some (.int .i64 size)∧w'.cell? ⟨w.heap.size,5,none⟩=some (.slice (some ad) 1 c)∧w'.cell? ad=some (.int .i64 y0.f0)∧w'.cell? ⟨ad.block,ad.off+1,none⟩=some (.string y0.f1.f0)∧w'.cell? ⟨ad.block,ad.off+2,none⟩=some (.string y0.f1.f1)∧w'.cell? ⟨ad.block,ad.off+3,none⟩=some (.string y0.f2)∧w'.cell? ⟨ad.block,ad.off+4,none⟩=some (.int .i64 y0.f3)∧w'.cell? ⟨ad.block,ad.off+5,none⟩=some (.slice A5_0 y0.f4.length c5_0)) (first | exact K | exact HKL.out _ _ ((kA3 _ _).alloc (kA2 _) _) K) (first | (go_at_call 58;refine (HR0.out _ V0 BW).mono ?_;rintro e wq ⟨rfl,hq⟩;clear HR0;have K:=HKL.out _ _ hq K;have V0:=V0.below hq;have BW:=BW.trans (hq.mono BW.size)) | (go_at_call 100;refine (HZ.out _ BW).mono ?_;rintro e wq ⟨rfl,hq⟩;have K:=HKL.out _ _ hq K;have V0:=V0.below hq;have BW:=BW.trans (hq.mono BW.size)) | (go_at_call 98;refine (HJ.out _).mono ?_;rintro e wq ⟨rfl,hq⟩;have K:=HKL.out _ _ hq (HKL.out _ _ ((kA3 _ _).alloc (kA2 _) _) K);have BW:=(BW.alloc BW.size _).trans (hq.mono kDm)))
 all_goals
  go_wp2;go_ret;exact⟨rfl,BW⟩
theorem worded11 (num:S28) (name:ByteArray) (size:Int) (y0:S31) (v:Value) (w:World) (hv:Vw w ⟨11,num,name,size,[y0]⟩ v) (hsz:(zAr ⟨11,num,name,size,[y0]⟩).size≤1000000000) (hT:Tab w) (hz0:-9≤size) (hz1:size≤99)
  (hr0:zD5 y0) :
  Calls Tryz.prog 97 #[v] w fun e w'=>e=.returned (.string (zAr ⟨11,num,name,size,[y0]⟩))∧Below w.heap.size w w':=by
 obtain⟨A,c,rfl,hc1,hc2⟩:=hv.out;simp only[List.length_cons,List.length_nil,kAv,Nat.reduceAdd] at hc1 hc2 hv ⊢;unfold exV at hv⊢;simp only at hv⊢;have hb0:=(kA3 w.heap.size w).alloc (kA2 _) (.cells #[.int .i64 11,.string num.f0,.string num.f1,.string name,.int .i64 size,.slice A 1 c] 150);obtain⟨ad,A5_0,c5_0,rfl,q0_0,q0_1,q0_2,q0_3,q0_4,q0_5,hvw0⟩:=zAh (xs:=[y0]) (Kd.C_below hc2 hb0) 0 kD6;simp only[List.getElem_cons_zero,kAZ,kAH] at q0_0 q0_1 q0_2 q0_3 q0_4 q0_5 hvw0;have hbl:=zA4 w (.cells #[.int .i64 11,.string num.f0,.string num.f1,.string name,.int .i64 size,.slice (some ad) 1 c] 150);obtain⟨⟨p0,p1,p2,p3,p4,p5⟩,_,xl⟩:=zA6 hbl;have HR0:=kA1 (fun W (hv:Vw W y0 (exV y0 (.slice A5_0 y0.f4.length c5_0))) (hb:Below w.heap.size w W)=>hr0 _ W 0 kD7 hv (hT.below hb));have HZ:=kA1 (fun W (hb:Below w.heap.size w W)=>zF5 size kD4 kD4 W (hT.below hb));have hcat:cat [⟨#[115,117,109,32]⟩,name,⟨#[32,60,32]⟩,⟨(Lib.itoa size).toArray⟩,⟨#[32,46,32]⟩,(zA7 y0 0)]=zAr ⟨11,num,name,size,[y0]⟩:=by
  rw[itoa_ofR size hz0 hz1];simp only[zBL,zBK,← kAD];rfl
 obtain⟨r,hr⟩:∃r,r=zAr ⟨11,num,name,size,[y0]⟩:=⟨_,rfl⟩;rw[← hr] at hcat hsz ⊢;have hj:=fun W:World=>zAQ W.heap.size [⟨#[115,117,109,32]⟩,name,⟨#[32,60,32]⟩,⟨(Lib.itoa size).toArray⟩,⟨#[32,46,32]⟩,(zA7 y0 0)] 9 _ (zA4 W _) kD6 kDl
 rw[hcat] at hj;simp only[List.length_cons,List.length_nil,kAv,Nat.reduceAdd,kAh,kAr] at hj;have HJ:=kA1 hj;clear hv hb0 hc1 hc2 hj hr hcat hsz hT hr0;generalize zA7 y0 0=t0 at *;generalize (⟨(Lib.itoa size).toArray⟩:ByteArray)=tz at *;have hkl:∀a b:World,Below a.heap.size a b→(a.cell? ⟨w.heap.size,3,none⟩=some (.string name)∧a.cell? ⟨w.heap.size,4,none⟩=some (.int .i64 size)∧a.cell? ⟨w.heap.size,5,none⟩=some (.slice (some ad) 1 c)∧a.cell? ad=some (.int .i64 y0.f0)∧a.cell? ⟨ad.block,ad.off+1,none⟩=some (.string y0.f1.f0)∧a.cell? ⟨ad.block,ad.off+2,none⟩=some (.string y0.f1.f1)∧a.cell? ⟨ad.block,ad.off+3,none⟩=some (.string y0.f2)∧a.cell? ⟨ad.block,ad.off+4,none⟩=some (.int .i64 y0.f3)∧a.cell? ⟨ad.block,ad.off+5,none⟩=some (.slice A5_0 y0.f4.length c5_0))→(b.cell? ⟨w.heap.size,3,none⟩=some (.string name)∧b.cell? ⟨w.heap.size,4,none⟩=some (.int .i64 size)∧b.cell? ⟨w.heap.size,5,none⟩=some (.slice (some ad) 1 c)∧b.cell? ad=some (.int .i64 y0.f0)∧b.cell? ⟨ad.block,ad.off+1,none⟩=some (.string y0.f1.f0)∧b.cell? ⟨ad.block,ad.off+2,none⟩=some (.string y0.f1.f1)∧b.cell? ⟨ad.block,ad.off+3,none⟩=some (.string y0.f2)∧b.cell? ⟨ad.block,ad.off+4,none⟩=some (.int .i64 y0.f3)∧b.cell? ⟨ad.block,ad.off+5,none⟩=some (.slice A5_0 y0.f4.length c5_0)):=fun a b hb ⟨h0,h1,h2,h3,h4,h5,h6,h7,h8⟩ =>
  ⟨zA0 hb h0,zA0 hb h1,zA0 hb h2,zA0 hb h3,zA0 hb h4,zA0 hb h5,zA0 hb h6,zA0 hb h7,zA0 hb h8⟩
 have HKL:=kA1 hkl;clear hkl;go_enter Tryz.func97,Tryz.ntmps97;go_wp2_with fail;have BW:=(kA3 w.heap.size w).alloc (kA2 _) (.cells #[.int .i64 11,.string num.f0,.string num.f1,.string name,.int .i64 size,.slice (some ad) 1 c] 150);generalize hX:w.alloc (.cells #[.int .i64 11,.string num.f0,.string num.f1,.string name,.int .i64 size,.slice (some ad) 1 c] 150)=X at *;have BW:=BW.drew;have K:=HKL.out X X.drew (kA3 _ X).drew ⟨p3,p4,p5,q0_0,q0_1,q0_2,q0_3,q0_4,q0_5⟩;have V0:=hvw0.below (kA3 _ X).drew;clear hbl p0 p1 p2 p3 p4 p5 xl hvw0 q0_0 q0_1 q0_2 q0_3 q0_4 q0_5
 go_region_held3 (fun w':World=>w'.cell? ⟨w.heap.size,3,none⟩=some (.string name)∧w'.cell? ⟨w.heap.size,4,none⟩=some (.int .i64 size)∧w'.cell? ⟨w.heap.size,5,none⟩=some (.slice (some ad) 1 c)∧w'.cell? ad=some (.int .i64 y0.f0)∧w'.cell? ⟨ad.block,ad.off+1,none⟩=some (.string y0.f1.f0)∧w'.cell? ⟨ad.block,ad.off+2,none⟩=some (.string y0.f1.f1)∧w'.cell? ⟨ad.block,ad.off+3,none⟩=some (.string y0.f2)∧w'.cell? ⟨ad.block,ad.off+4,none⟩=some (.int .i64 y0.f3)∧w'.cell? ⟨ad.block,ad.off+5,none⟩=some (.slice A5_0 y0.f4.length c5_0)) (first | exact K | exact HKL.out _ _ ((kA3 _ _).alloc (kA2 _) _) K) (first | (go_at_call 58;refine (HR0.out _ V0 BW).mono ?_;rintro e wq ⟨rfl,hq⟩;clear HR0;have K:=HKL.out _ _ hq K;have V0:=V0.below hq;have BW:=BW.trans (hq.mono BW.size)) | (go_at_call 100;refine (HZ.out _ BW).mono ?_;rintro e wq ⟨rfl,hq⟩;have K:=HKL.out _ _ hq K;have V0:=V0.below hq;have BW:=BW.trans (hq.mono BW.size)) | (go_at_call 98;refine (HJ.out _).mono ?_;rintro e wq ⟨rfl,hq⟩;have K:=HKL.out _ _ hq (HKL.out _ _ ((kA3 _ _).alloc (kA2 _) _) K);have BW:=(BW.alloc BW.size _).trans (hq.mono kDm)))
 all_goals
  go_wp2;go_ret;exact⟨rfl,BW⟩
section
def Gd (st:Nat→Tk) (n j:Nat):Prop:=∀i,n≤i→i<j→(st i).1≠-1
def Fed {α:Type} (st:Nat→Tk) (wt:α→Nat) (b n:Nat):RI α→Prop
 | .error j=>n≤j∧Gd st n j
 | .ok (x,j)=>n≤j∧Gd st n j∧wt x+n≤b+j
section
variable {st:Nat→Tk}
theorem gd_nil (n:Nat):Gd st n n:=fun i h1 h2=>by omega
theorem gd_app {n m j:Nat} (h1:Gd st n m) (h2:Gd st m j):Gd st n j:=fun i a b=>by
 by_cases h:i<m
 ·exact h1 i a h
 ·exact h2 i kD4 b
theorem gd_one {n:Nat} (h:(st n).1≠-1):Gd st n (n+1):=fun i a b=>by
 obtain rfl:i=n:=kD4
 exact h
theorem Fed.le {α:Type} {wt:α→Nat} {b b' n:Nat} {r:RI α} (h:Fed st wt b n r) (hb:b≤b'):Fed st wt b' n r:=by
 cases r with
 | error j=>exact h
 | ok p=>exact⟨h.1,h.2.1,kAB h.2.2 kD4⟩
theorem zC5 {α:Type} {wt:α→Nat} {b n:Nat} {x:α} (h:wt x≤b):Fed st wt b n (.ok (x,n):RI α):=⟨kA2 _,gd_nil _,kD4⟩
theorem zCX {α:Type} {wt:α→Nat} {b n:Nat}:Fed st wt b n (.error n:RI α):=⟨kA2 _,gd_nil _⟩
theorem zAH {α:Type} {wt:α→Nat} {b n:Nat} {r:RI α} (hk:(st n).1≠-1) (h:Fed st wt (b+1) (n+1) r):Fed st wt b n r:=by
 cases r with
 | error j=>exact⟨by have:=h.1;omega,gd_app (gd_one hk) h.2⟩
 | ok p=>exact⟨by have:=h.1;omega,gd_app (gd_one hk) h.2.1,by have:=h.2.2;omega⟩
theorem zAN {α β:Type} {wa:α→Nat} {wb:β→Nat} {b c n:Nat} {r:RI α} {f:α→Nat→RI β} (h:Fed st wa b n r) (hf:∀x m,n≤m→wa x+n≤b+m→Fed st wb (c+m-n) m (f x m)):Fed st wb c n (zBM r f):=by
 cases r with
 | error j=>exact h
 | ok p =>
  have h1:=hf p.1 p.2 h.1 h.2.2;show Fed st wb c n (f p.1 p.2);have hn:=h.1
  cases hr:f p.1 p.2 with
  | error j=>rw[hr] at h1;exact⟨kAB hn h1.1,gd_app h.2.1 h1.2⟩
  | ok q=>rw[hr] at h1;exact⟨kAB hn h1.1,gd_app h.2.1 h1.2.1,by have:=h1.2.2;omega⟩
theorem zBp {α:Type} {wt:α→Nat} {b n:Nat} {c:Prop} [Decidable c] {r s:RI α} (h1:c→Fed st wt b n r) (h2:¬c→Fed st wt b n s):Fed st wt b n (if c then r else s):=by
 by_cases h:c
 ·rw[kAa h];exact h1 h
 ·rw[kA9 h];exact h2 h
theorem zBn {n:Nat} {x:ByteArray} (h:skI st n x=true):(st n).1≠-1:=by
 intro e;unfold skI at h;rw[e] at h;simp at h
theorem zG0 {n:Nat} {k:Int} (h:(st n).1=k) (hk:k≠-1):(st n).1≠-1:=by rw[h];exact hk
theorem node1 (op:Int) (num:S28) (nm:ByteArray) (sz:Int) (x:S31):zAl ⟨op,num,nm,sz,[x]⟩=zAl x+1:=by rw[zB3];simp[zAy]
theorem node0 (op:Int) (num:S28) (nm:ByteArray) (sz:Int):zAl ⟨op,num,nm,sz,[]⟩=1:=by rw[zB3];simp[zAy]
theorem node2 (op:Int) (num:S28) (nm:ByteArray) (sz:Int) (x y:S31):zAl ⟨op,num,nm,sz,[x,y]⟩=zAl x+zAl y+1:=by rw[zB3];simp[zAy]
theorem nodeT (op:Int) (x y:S31):zAl (twoX op x y)=zAl x+zAl y+1:=node2 _ _ _ _ _ _
end
section
variable (st:Nat→Tk) (chk:S28→Int) (L:Nat)
theorem zGc {α:Type} (wt:α→Nat) (cl:ByteArray) (x:α) (b n:Nat) (h:wt x≤b):Fed st wt b n (zDv st cl x n):=zBp (fun c=>zAH (zBn c) (zC5 kD4)) (fun _=>zCX)
theorem num_fed (lo hi:Int) (b n:Nat):Fed st (fun _=>0) b n (numI st lo hi n):=by
 unfold numI;split
 ·exact zBp (fun c=>zAH (zG0 c.1 kD7) (zC5 kD4)) (fun _=>zCX)
 ·exact zCX
theorem unit_fed (r:S28) (b n:Nat) (hb:1≤b):Fed st zAl b n (unitI st r n):=zBp (fun c=>zAH (zG0 c kD7) (zC5 kDJ)) (fun _=>zC5 kDJ)
theorem den_fed (num:ByteArray) (b n:Nat) (hb:1≤b):Fed st zAl b n (denI st chk num n):=zBp (fun c=>zAH (zG0 c.1 kD7) (unit_fed st _ _ _ kD4)) (fun _=>zCX)
theorem lit_fed (num:ByteArray) (b n:Nat) (hb:1≤b):Fed st zAl b n (litI st chk num n):=zBp (fun c=>zAH (zBn c) (den_fed st chk _ _ _ kD4)) (fun _=>unit_fed st _ _ _ hb)
variable {ex:Nat→RI S31} (h:∀n,Fed st zAl 0 n (ex n))
include h
theorem zDS (x:ByteArray) (n:Nat):Fed st zAl 0 n (zEt st ex x n):=zBp (fun c=>zAH (zBn c) ((h _).le kD4)) (fun _=>zCX)
theorem list_fed (cl:ByteArray) (k:Nat):∀(acc:List S31) (b n:Nat),zAy acc≤b→Fed st zAy b n (listI st ex cl k acc n):=by
 induction k with
 | zero=>intro acc b n _;exact zCX
 | succ k ih =>
  intro acc b n hb;refine zAN (h n) fun x m h1 h2=>?_
  have he:zAy (acc++[x])=zAy acc+zAl x:=by rw[zDp];simp[zAy]
  exact zBp (fun c=>zAH (zBn c.2) (ih _ _ _ kD4)) (fun _=>zGc st _ _ _ _ _ kD4)
theorem args_fed (nm:ByteArray) (n:Nat):Fed st zAl 1 n (argsI st ex nm n) :=
 zBp (fun c=>zAH (zBn c) (zC5 kDJ)) (fun _=>zAN (list_fed st h _ _ _ 0 _ (by simp[zAy])) fun x m h1 h2=>zC5 (by rw[zB3];simp only;omega))
theorem name_fed (nm:ByteArray) (n:Nat):Fed st zAl 1 n (nameI st ex nm n):=zBp (fun c=>zAH (zBn c) ((args_fed st h _ _).le kD4)) (fun _=>zC5 kDJ)
theorem atom_fed (n:Nat):Fed st zAl 0 n (zFn st chk ex n) :=
 zBp (fun c=>zAH (zG0 c kD7) (lit_fed st chk _ _ _ kD4)) (fun _=>zBp (fun c=>zAH (zG0 c kD7) ((name_fed st h _ _).le kD4)) (fun _ =>
  zBp (fun c=>zAH (zBn c) (zAN (h _) fun x m h1 h2=>zGc st _ _ _ _ _ kD4)) (fun _ =>
  zBp (fun c=>zAH (zBn c) (zAN (list_fed st h _ _ _ 0 _ (by simp[zAy])) fun x m h1 h2=>zC5 (by rw[zB3];simp only;omega))) (fun _=>zCX))))
theorem elemLoop_fed (k:Nat):∀(x:S31) (b n:Nat),zAl x≤b→Fed st zAl b n (zB5 st ex k x n):=by
 induction k with
 | zero=>intro x b n hb;exact zC5 hb
 | succ k ih =>
  intro x b n hb;exact zBp (fun c=>zAH (zBn c) (zAN (h _) fun y m h1 h2=>zAN (zGc st zAl _ y (zAl y) m (kA2 _)) fun y m h3 h4=>ih _ _ _ kDC)) (fun _=>zC5 hb)
theorem element_fed (n:Nat):Fed st zAl 0 n (zBw st chk L ex n):=zAN (atom_fed st chk h n) fun x m h1 h2=>elemLoop_fed st h L x _ m kD4
omit h in
theorem expo_fed (x:S31) (b n:Nat) (hb:zAl x+1≤b):Fed st zAl b n (expoI st x n) :=
 zBp (fun c=>zAH (zBn c) (zAN (num_fed st _ _ 0 _) fun _ m h1 h2=>zC5 kDK)) (fun _=>zAN (num_fed st _ _ 0 _) fun _ m h1 h2=>zC5 kDK)
omit h in
theorem powTail_fed (x:S31) (b n:Nat) (hb:zAl x≤b):Fed st zAl b n (zEk st x n):=zBp (fun c=>zAH (zBn c) (expo_fed st x _ _ kD4)) (fun _=>zC5 hb)
theorem zFN (n:Nat):Fed st zAl 0 n (zCw st chk L ex n):=zAN (element_fed st chk L h n) fun x m h1 h2=>powTail_fed st x _ m kD4
theorem prodLoop_fed (k:Nat):∀(x:S31) (b n:Nat),zAl x≤b→Fed st zAl b n (zAY st chk L ex k x n):=by
 induction k with
 | zero=>intro x b n hb;exact zC5 hb
 | succ k ih =>
  intro x b n hb;exact zBp (fun c=>zAH (zBn c) (zAN (zFN st chk L h _) fun y m h1 h2=>ih _ _ _ kDC)) (fun _ =>
   zBp (fun c=>zAH (zBn c) (zAN (zFN st chk L h _) fun y m h1 h2=>ih _ _ _ kDC)) (fun _=>zC5 hb))
theorem zDo (n:Nat):Fed st zAl 0 n (zBf st chk L ex n):=zAN (zFN st chk L h n) fun x m h1 h2=>prodLoop_fed st chk L h L x _ m kD4
theorem zFD (k:Nat):∀(x:S31) (b n:Nat),zAl x≤b→Fed st zAl b n (zBk st chk L ex k x n):=by
 induction k with
 | zero=>intro x b n hb;exact zC5 hb
 | succ k ih =>
  intro x b n hb;exact zBp (fun c=>zAH (zBn c) (zAN (zDo st chk L h _) fun y m h1 h2=>ih _ _ _ kDC)) (fun _ =>
   zBp (fun c=>zAH (zBn c) (zAN (zDo st chk L h _) fun y m h1 h2=>ih _ _ _ kDC)) (fun _=>zC5 hb))
theorem sums_fed (n:Nat):Fed st zAl 0 n (zDw st chk L ex n) :=
 zBp (fun c=>zAH (zBn c) (zAN (zDo st chk L h _) fun x m h1 h2=>zFD st chk L h L _ _ m kDK)) (fun _=>zAN (zDo st chk L h _) fun x m h1 h2=>zFD st chk L h L _ _ m kD4)
theorem loop4_fed (op:Int) (nm:ByteArray) (n:Nat):Fed st zAl 1 n (loopI4 st ex op nm n) :=
 zAN (num_fed st _ _ 0 _) fun v m h1 h2=>zAN (zDS st h _ m) fun x j h3 h4=>zC5 kDK
theorem loop3_fed (op:Int) (nm:ByteArray) (n:Nat):Fed st zAl 1 n (loopI3 st ex op nm n):=zBp (fun c=>zAH (zBn c) ((loop4_fed st h _ _ _).le kD4)) (fun _=>zCX)
theorem loop_fed (op:Int) (n:Nat):Fed st zAl 1 n (loopI st ex op n):=zBp (fun c=>zAH (zG0 c kD7) ((loop3_fed st h _ _ _).le kD4)) (fun _=>zCX)
theorem let_fed (n:Nat):Fed st zAl 1 n (lettI st ex n) :=
 zBp (fun c=>zAH (zG0 c kD7) (zAN (zDS st h _ _) fun a m h1 h2=>zAN (zDS st h _ m) fun b j h3 h4=>zC5 (by rw[node2];omega))) (fun _=>zCX)
theorem if_fed (n:Nat):Fed st zAl 1 n (ifI st chk L ex n) :=
 zAN (sums_fed st chk L h n) fun a n1 h1 h2=>zAN (zDS st (sums_fed st chk L h) _ n1) fun b n2 h3 h4=>zAN (zDS st h _ n2) fun c n3 h5 h6=>zAN (zDS st h _ n3) fun d n4 h7 h8 =>
  zC5 (by rw[zB3];simp[zAy];omega)
theorem exprB_fed (n:Nat):Fed st zAl 0 n (zG7 st chk L ex n) :=
 zBp (fun c=>zAH (zBn c) ((let_fed st h _).le kD4)) (fun _=>zBp (fun c=>zAH (zBn c) ((if_fed st chk L h _).le kD4)) (fun _ =>
  zBp (fun c=>zAH (zBn c) ((loop_fed st h _ _).le kD4)) (fun _=>zBp (fun c=>zAH (zBn c) ((loop_fed st h _ _).le kD4)) (fun _=>sums_fed st chk L h _))))
omit h in
theorem expr_fed (k:Nat):∀n,Fed st zAl 0 n (zAW st chk L k n):=by
 induction k with
 | zero=>intro n;exact zCX
 | succ k ih=>intro n;exact exprB_fed st chk L ih n
end
end
end Go.Proofs.YtjaobihcdkjmbaaGreatDoor
end
