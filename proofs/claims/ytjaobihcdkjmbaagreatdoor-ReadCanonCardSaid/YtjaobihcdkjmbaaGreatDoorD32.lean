/- What can be read as an expression is printed as a text that reads as the same, and is printed as itself: for every argument; a part of its proof. -/
import Derived.Test.YtjaobihcdkjmbaaGreatDoorDa
import Derived.Test.YtjaobihcdkjmbaaGreatDoorDb
import Derived.Test.YtjaobihcdkjmbaaGreatDoorD0
import Derived.Test.YtjaobihcdkjmbaaGreatDoorD1
import Derived.Test.YtjaobihcdkjmbaaGreatDoorD7
import Derived.Test.YtjaobihcdkjmbaaGreatDoorD10
import Derived.Test.YtjaobihcdkjmbaaGreatDoorD11
import Derived.Test.YtjaobihcdkjmbaaGreatDoorD13
import Derived.Test.YtjaobihcdkjmbaaGreatDoorD16
import Derived.Test.YtjaobihcdkjmbaaGreatDoorD17
import Derived.Test.YtjaobihcdkjmbaaGreatDoorD19
import Derived.Test.YtjaobihcdkjmbaaGreatDoorD20
import Derived.Test.YtjaobihcdkjmbaaGreatDoorD21
import Derived.Test.YtjaobihcdkjmbaaGreatDoorD23
import Derived.Test.YtjaobihcdkjmbaaGreatDoorD25
import Derived.Test.YtjaobihcdkjmbaaGreatDoorD26
import Derived.Test.YtjaobihcdkjmbaaGreatDoorD29
set_option linter.unusedVariables false
set_option linter.unusedSimpArgs false
namespace Go.Proofs.YtjaobihcdkjmbaaGreatDoor.PReadTokens
end Go.Proofs.YtjaobihcdkjmbaaGreatDoor.PReadTokens
namespace Go.Proofs.YtjaobihcdkjmbaaGreatDoorW.PrintLast
end Go.Proofs.YtjaobihcdkjmbaaGreatDoorW.PrintLast
namespace Go.Proofs.YtjaobihcdkjmbaaGreatDoorW.PrintWords
end Go.Proofs.YtjaobihcdkjmbaaGreatDoorW.PrintWords
set_option maxRecDepth 100000
set_option maxHeartbeats 16000000
section
namespace Go.Proofs.YtjaobihcdkjmbaaGreatDoor
open Go.RowKit Go.Proofs.YtjaobihcdkjmbaaGreatDoorW.PrintWords Go.Proofs.YtjaobihcdkjmbaaGreatDoorW.PrintLast
section
section
variable {P:Program} {ops:Array Oper} {Q:Exit→Act→World→Prop}
theorem call_panics {oi:Oper} {N:Option Tmp} {a:Act} {w:World} {K:Act→World→Prop} (f:FuncId) (args:Array Value) (hw:Region.wanted oi (yielded ops a.tmps)=true) (hrun:(execOp a.eval oi).run P w=.ok (.enter f args) w)
  (h:Calls P f args w fun e w'=>∃c,e=.panicked c∧Q (.panic c) a w'):if Region.wanted oi (yielded ops a.tmps)=true then Oper.wp P oi a w K Q else K (a.put N undef) w:=by
 rw[kAa hw];unfold Oper.wp;rw[hrun,Oper.upon_enter];refine h.mono fun e w'' hh=>?_
 obtain⟨v,rfl,hk⟩:=hh;exact hk
theorem panics_ {oi : Oper} {N : Option Tmp} {a : Act} {w : World} {K : Act → World → Prop} {f : FuncId} {fn : Func} {os : Array Operand} {ts : Array TypeId} (hf : P.funcs[f]? = some fn) (hname : (fn.name == "runtime.NumGoroutine") = false) (hb : fn.body.isSome = true) (args : Array Value)
  (hw:Region.wanted oi (yielded ops a.tmps)=true) (hop:oi.op=.call { callee:=.value (.func f),args:=os,argTypes:=ts }) (hargs:os.map a.eval=args)
  (h:Calls P f args w fun e w'=>∃c,e=.panicked c∧Q (.panic c) a w'):if Region.wanted oi (yielded ops a.tmps)=true then Oper.wp P oi a w K Q else K (a.put N undef) w:=by
 refine call_panics f args hw ?_ h;have he:=enters_ hf hname hb args w;unfold execOp;simp[hop,resolve,Deferred.ofValue,invoke,Act.eval,hargs,he]
theorem zEh {oi : Oper} {a : Act} {w : World} {f : FuncId} {fn : Func} {t : Tmp} {os : Array Operand} {ts : Array TypeId} {first cap : Array Value} (hf : P.funcs[f]? = some fn) (hname : (fn.name == "runtime.NumGoroutine") = false) (hb : fn.body.isSome = true) (args : Array Value)
  (hop:oi.op=.call { callee:=.value (.tmp t),args:=os,argTypes:=ts }) (hv:a.tmps.getD t undef=.func (.func f) first cap) (hargs:first++os.map a.eval++cap=args) :
  (execOp a.eval oi).run P w=.ok (.enter f args) w:=by
 have he:=enters_ hf hname hb args w;have hv':a.eval (.tmp t)=.func (.func f) first cap:=hv
 unfold execOp;simp[hop,resolve,hv',Deferred.ofValue,invoke,hargs,he]
end
end
end Go.Proofs.YtjaobihcdkjmbaaGreatDoor
end
section
namespace Go.Proofs.YtjaobihcdkjmbaaGreatDoor
open Go.RowKit Go.Proofs.YtjaobihcdkjmbaaGreatDoorW.PrintWords Go.Proofs.YtjaobihcdkjmbaaGreatDoorW.PrintLast Go.Proofs.YtjaobihcdkjmbaaGreatDoor.PReadTokens
def wordK (k:Nat):ByteArray:=if k=3 then ⟨#[60]⟩ else if k=2 then ⟨#[116,104,101,110]⟩ else ⟨#[101,108,115,101]⟩
def ifT (ts:List S47) (en:Nat) (chk:S28→Int) (ex:Nat→PR):Nat→List S31→Nat→PR
 | 0,acc,n=>.ok (⟨12,z28,⟨#[]⟩,0,acc⟩,n)
 | k+1,acc,n =>
  if sk ts en n (wordK (k+1))=true then
   match (if k+1=3 then zD2 ts en chk ex (n+1) else ex (n+1)) with
   | .error p=>.error p
   | .ok (x,m)=>ifT ts en chk ex k (acc++[x]) m
  else .error (atP ts en n)
theorem ifT_eq (ts:List S47) (en:Nat) (chk:S28→Int) (ex:Nat→PR) (now:Nat):ifS ts en chk ex now=match zD2 ts en chk ex now with | .error p=>.error p | .ok (a,n1)=>ifT ts en chk ex 3 [a] n1:=by
 unfold ifS
 cases zD2 ts en chk ex now with
 | error p=>rfl
 | ok r =>
  obtain⟨a,n1⟩:=r;simp only[ifT,wordK];by_cases h1:sk ts en n1 ⟨#[60]⟩=true
  ·simp only[h1,kCO]
   cases zD2 ts en chk ex (n1+1) with
   | error p=>rfl
   | ok r =>
    obtain⟨b,n2⟩:=r;by_cases h2:sk ts en n2 ⟨#[116,104,101,110]⟩=true
    ·simp[h2]
     cases ex (n2+1) with
     | error p=>rfl
     | ok r =>
      obtain⟨c,n3⟩:=r;by_cases h3:sk ts en n3 ⟨#[101,108,115,101]⟩=true
      ·simp[h3]
       cases ex (n3+1)<;>rfl
      ·simp[h3]
    ·simp[h2]
  ·simp[h1]
abbrev Si (w:World) (X LS:Nat):Nat→Prop:=fun k=>w.heap.size<k∧k≠X∧k≠LS
abbrev litO (f:Nat×Nat):Obj:=.cells #[.string ⟨#[60]⟩,.string ⟨#[116,104,101,110]⟩,.string ⟨#[101,108,115,101]⟩] 9 f
structure IfAt (W0:World) (R B:Nat) (ts:List S47) (en:Nat) (w:World) (X LS:Nat) (wr:World) (acc:List S31) (n:Nat) (v:Value):Prop where
 mid:Mid W0 R B ts en w wr n
 blk:wr.heap[X]?=some (.cells #[.int .i64 12,.string ⟨#[]⟩,.string ⟨#[]⟩,.string ⟨#[]⟩,.int .i64 0,v] 31 (0,0))
 row:k31.R 31 wr 0 (Si w X LS) v acc
 lit:wr.heap[LS]?=some (litO (0,0))
theorem Rdr.app {w w4:World} {R:Nat} {ts:List S47} {n en:Nat} {S:Nat→Prop} {v:Value} {acc:List S31} (h:Rdr w R ts n en) (hrow:k31.R 31 w 0 S v acc) (hg:w.grownBy w4 v.ownBlock) (hR:∀b,v.ownBlock=some b→b≠R):Rdr w4 R ts n en:=by
 obtain⟨u,base,h1,h2⟩:=h.out;obtain⟨inner,ho⟩:=Kd.R_own hrow;exact⟨u,base,(hg.block R (zA5 h1) (fun e=>hR R e.symm rfl)).trans h1,own_other h2 hg (own_type_ne h2 ho kD7)⟩
theorem IfAt.below {W0:World} {R B:Nat} {ts:List S47} {en:Nat} {w:World} {X LS:Nat} {wr w1:World} {acc:List S31} {n:Nat} {v:Value} (G:IfAt W0 R B ts en w X LS wr acc n v) (hb:Below wr.heap.size wr w1):IfAt W0 R B ts en w X LS w1 acc n v :=
 ⟨G.mid.below hb,zAa hb G.blk,Kd.R_below G.row hb,zAa hb G.lit⟩
theorem IfAt.go {W0:World} {R B:Nat} {ts:List S47} {en:Nat} {w:World} {X LS:Nat} {wr w1:World} {acc:List S31} {n n1:Nat} {v:Value} (E:Env W0 R B ts) (hR:R<w.heap.size) (hX:w.heap.size<X) (hL:w.heap.size<LS)
  (G:IfAt W0 R B ts en w X LS wr acc n v) (k:Took wr R ts n1 en w1) (hn:n1≤ts.length):IfAt W0 R B ts en w X LS w1 acc n1 v :=
 ⟨G.mid.go E hR k hn,k.blk G.blk kD4,Kd.R_grown G.row k.grown (fun j hj e=>by injection e with e;have:=hj.1;omega),k.blk G.lit kD4⟩
theorem IfAt.next {W0:World} {R B:Nat} {ts:List S47} {en:Nat} {w:World} {X LS:Nat} {wr w2 w4:World} {acc:List S31} {n n2:Nat} {v v1:Value} {y:S31} (E:Env W0 R B ts) (hR:R<w.heap.size) (hX:w.heap.size<X) (hL:w.heap.size<LS) (hXL:X≠LS)
  (G:IfAt W0 R B ts en w X LS wr acc n v) (k:Took wr R ts n2 en w2) (hn:n2≤ts.length) (hrow:k31.R 31 w4 0 (Si w X LS) v1 (acc++[y])) (hg:w2.grownBy w4 v.ownBlock) :
  w4.heap[X]?=some (.cells #[.int .i64 12,.string ⟨#[]⟩,.string ⟨#[]⟩,.string ⟨#[]⟩,.int .i64 0,v] 31 (0,0))∧Rdr w4 R ts n2 en∧IfAt W0 R B ts en w X LS (w4.setCell ⟨X,5,none⟩ v1) (acc++[y]) n2 v1:=by
 have G2:=G.go E hR hX hL k hn;have hb:∀b,v.ownBlock=some b→w.heap.size<b∧b≠X∧b≠LS:=fun b hb=>G2.row.1 b hb
 have x4:=(hg.block X (zA5 G2.blk) (fun e=>(hb X e.symm).2.1 rfl)).trans G2.blk;have l4:=(hg.block LS (zA5 G2.lit) (fun e=>(hb LS e.symm).2.2 rfl)).trans G2.lit;have z4:=(hg.block w.heap.size (zA5 G2.mid.res) (fun e=>by have:=(hb _ e.symm).1;omega)).trans G2.mid.res;have own:=E.own;have r4:=G2.mid.st.rdr.app G2.row hg (fun b e=>by have:=(hb b e).1;omega);have m4:Mid W0 R B ts en w w4 n2:=⟨⟨r4,G2.mid.st.low.grown hg G2.mid.st.low.size (fun b e=>by have:=(hb b e).1;omega),kAB G2.mid.st.base hg.size,hn⟩,⟨zCn G2.mid.took.grown hg (fun b e=>kAP (hb b e).1),r4⟩,z4⟩;exact⟨x4,r4,m4.setX E hR kD4 hX x4 5 v1,zA8 x4 5 v1,Kd.R_far hrow (p:=⟨X,5,none⟩) (fun k hk=>hk.2.1) v1,(kA5 _ ⟨X,5,none⟩ _ _ kDr).trans l4⟩
theorem ifT_no {ts:List S47} {en:Nat} {chk:S28→Int} {ex:Nat→PR} {k:Nat} {acc:List S31} {n:Nat} (h:sk ts en n (wordK (k+1))=false):ifT ts en chk ex (k+1) acc n=.error (atP ts en n):=by
 unfold ifT;rw[kA9 kDL]
theorem ifT_err {ts:List S47} {en:Nat} {chk:S28→Int} {ex:Nat→PR} {k:Nat} {acc:List S31} {n:Nat} {q:Int} (h:sk ts en n (wordK (k+1))=true) (hx:(if k+1=3 then zD2 ts en chk ex (n+1) else ex (n+1))=.error q):ifT ts en chk ex (k+1) acc n=.error q:=by
 unfold ifT;rw[kAa h,hx]
theorem ifT_ok {ts:List S47} {en:Nat} {chk:S28→Int} {ex:Nat→PR} {k:Nat} {acc:List S31} {n m:Nat} {x:S31} (h:sk ts en n (wordK (k+1))=true) (hx:(if k+1=3 then zD2 ts en chk ex (n+1) else ex (n+1))=.ok (x,m)):ifT ts en chk ex (k+1) acc n=ifT ts en chk ex k (acc++[x]) m:=by
 conv=>lhs;unfold ifT
 rw[kAa h,hx]
theorem expr_if (W0:World) (R B:Nat) (ts:List S47) (en:Nat) (chk:S28→Int) (ex:Nat→PR) (m now:Nat) (w:World) (E:Env W0 R B ts) (h:St W0 R B ts en now w) (hm:m≤now+1) (hex:Pars W0 R B ts en 134 ex m) (hsums:Pars W0 R B ts en 135 (zD2 ts en chk ex) m)
  (hlet:sk ts en now ⟨#[108,101,116]⟩=false) (hif:sk ts en now ⟨#[105,102]⟩=true) :
  Calls Tryz.prog 134 #[.pointer (some ⟨R,0,none⟩)] w (zAk w R ts en now (ifS ts en chk ex (now+1))):=by
 have few:=E.few;have hRw:=h.rdr.lt;have M0:=Mid.start h;have hnow:=h.pos;have hlt0:=zAv hif;have s0:=zAT R ts now en ⟨#[108,101,116]⟩ (w.alloc zO) M0.st.rdr hnow hlet;have S1:=kA1 (fun w' hr=>zAE R ts now en ⟨#[105,102]⟩ w' hr few hif);have HX:=kA1 hex;have HS:=kA1 hsums;clear h hlet hif hex hsums;rw[ifT_eq]
 cases hc:zD2 ts en chk ex (now+1) with
 | error q =>
  dsimp only;go_enter Tryz.func134,Tryz.ntmps134;go_wp2_with fail;refine s0.mono ?_;rintro e w1 ⟨rfl,k1⟩;have M1:=M0.go E hRw k1 hnow;have s1:=S1.out _ M1.st.rdr;go_wp2_with fail;refine s1.mono ?_;rintro e w2 ⟨rfl,k2⟩;have M2:=M1.go E hRw k2 hlt0;have hs:=HS.out (now+1) w2 hm M2.st;rw[hc] at hs;unfold zAk zAm at hs;obtain⟨a1,f1,a3,a4,lt⟩:=M2.st.rdr.cells;go_wp2_with (go_at_call 135;refine hs.mono ?_;rintro e w3 ⟨rfl,hg⟩);exact⟨rfl,rfl,kA7 M2.took.grown hg⟩
 | ok r =>
  obtain⟨a,n1⟩:=r;dsimp only;generalize hresL:ifT ts en chk ex 3 [a] n1=res;have HresL:=kA1 hresL;clear hresL;go_enter Tryz.func134,Tryz.ntmps134;go_wp2_with fail;refine s0.mono ?_;rintro e w1 ⟨rfl,k1⟩;have M1:=M0.go E hRw k1 hnow;have s1:=S1.out _ M1.st.rdr;clear s0 k1 M0;go_wp2_with fail;refine s1.mono ?_;rintro e w2 ⟨rfl,k2⟩;have M2:=M1.go E hRw k2 hlt0;have hs:=HS.out (now+1) w2 hm M2.st;rw[hc] at hs;unfold zAk at hs;obtain⟨a1,f1,a3,a4,lt⟩:=M2.st.rdr.cells;clear s1 k2 M1;go_wp2_with fail;refine hs.mono ?_;rintro e w3 ⟨hn1,hn2,va,rfl,hva,k3⟩;obtain⟨v5,A5,n5,c5,rfl,rfl,_,_⟩:=hva.cells;have M3:=M2.go E hRw k3 hn2;have hX2:=M2.lt;have hX3:=M3.lt;clear hs k3 M2;have r3:=zA4 w3 (.cells #[.int .i64 a.f0,.string a.f1.f0,.string a.f1.f1,.string a.f2,.int .i64 a.f3,.slice A5 n5 c5] 31);unfold exV;go_wp2_with fail;have hone:=(hva.old (S':=Si w (w3.heap.size+1) (w3.heap.size+1+1)) (fun k hk hlt=>by simp only[From] at hk;exact⟨kD4,kD4,kD4⟩)).one ⟨hX3,kD4,kD4⟩ ⟨12,z28,⟨#[]⟩,0,[a]⟩ rfl;have G0:IfAt W0 R B ts en w (w3.heap.size+1) (w3.heap.size+1+1) (((w3.alloc (.cells #[.int .i64 a.f0,.string a.f1.f0,.string a.f1.f1,.string a.f2,.int .i64 a.f3,.slice A5 n5 c5] 31)).alloc (.cells #[.int .i64 12,.string ⟨#[]⟩,.string ⟨#[]⟩,.string ⟨#[]⟩,.int .i64 0,.slice (some ⟨w3.heap.size,0,none⟩) 1 1] 31)).alloc (litO (0,0))) [a] n1 (.slice (some ⟨w3.heap.size,0,none⟩) 1 1):=by
   obtain⟨v,h1,h2⟩:=hone.out;obtain rfl:=zCu h1;refine⟨((M3.alloc _).alloc _).alloc _,(kA4 _ _ _ kD6).trans (zAD _ _ _ kD6),Kd.R_below h2 (((kA3 _ _).alloc (kA2 _) _).alloc kD6 _),zAD _ _ _ kD6⟩
  have hXw:w.heap.size<w3.heap.size+1:=kD4
  have hLw:w.heap.size<w3.heap.size+1+1:=kD4
  have hXL:w3.heap.size+1≠w3.heap.size+1+1:=kD4
  clear hone r3 M3 hva;generalize (((w3.alloc (.cells #[.int .i64 a.f0,.string a.f1.f0,.string a.f1.f1,.string a.f2,.int .i64 a.f3,.slice A5 n5 c5] 31)).alloc (.cells #[.int .i64 12,.string ⟨#[]⟩,.string ⟨#[]⟩,.string ⟨#[]⟩,.int .i64 0,.slice (some ⟨w3.heap.size,0,none⟩) 1 1] 31)).alloc (litO (0,0)))=WW at *;generalize w3.heap.size+1+1=LS at *;generalize w3.heap.size+1=X at *;go_loopg [56] 3 (fun k v56 wr=>∃(j:Int) (acc:List S31) (n:Nat) (v5:Value),v56=.int .i64 j∧0≤j∧j+k=3∧Hid (acc.length+k=4)∧now<n∧n≤ts.length∧IfAt W0 R B ts en w X LS wr acc n v5∧Hid (ifT ts en chk ex k acc n=res))
  case atStart=>exact⟨0,[a],n1,_,rfl,kD4,rfl,kA1 rfl,kD4,hn2,G0,HresL⟩
  case round =>
   clear G0 HresL hn1 hn2 hc;obtain⟨j,acc,n,v5,rfl,hj0,hj,hacc,hnn,hnl,G,Hres⟩:=hrel;obtain⟨A5,c5,rfl⟩:=Kd.R_slice G.row;have hXR:X≠R:=kD4
   rcases (show gk=0∧j=3∨gk=3∧j=0∨gk=2∧j=1∨gk=1∧j=2 by omega) with⟨rfl,rfl⟩ | ⟨rfl,rfl⟩ | ⟨rfl,rfl⟩ | ⟨rfl,rfl⟩
   ·have Hr:Hid (res=.ok (⟨12,z28,⟨#[]⟩,0,acc⟩,n)):=kA1 Hres.out.symm;obtain⟨⟨x0,x1,x2,x3,x4,x5⟩,_,xxl⟩:=zA6 G.blk;obtain⟨⟨q0,q1,q2,q3,q4,q5⟩,⟨f0,f1,f2,f3,f4,f5⟩,xl2⟩:=zA6 G.mid.res;have hx9:Ex wr (fun k=>w.heap.size<k) ⟨12,z28,⟨#[]⟩,0,acc⟩ (exV ⟨12,z28,⟨#[]⟩,0,acc⟩ (.slice A5 acc.length c5)):=⟨_,rfl,Kd.R_mono G.row (fun k hk=>hk.1)⟩;have hfin:=fin6 (.int .i64 12) (.string ⟨#[]⟩) (.string ⟨#[]⟩) (.string ⟨#[]⟩) (.int .i64 0) (.slice A5 acc.length c5) G.mid.res;have hdone:=G.mid.done hRw hx9 hnn (.int .i64 12) (.string ⟨#[]⟩) (.string ⟨#[]⟩) (.string ⟨#[]⟩) (.int .i64 0) (.slice A5 acc.length c5);simp only[set6] at hfin hdone;have HF:=kA1 hfin;have HD:=kA1 hdone;clear hfin hdone hx9 G Hres;go_wp2;rw[Hr.out];exact kAi (zAg Tryz.results134 _ _ w.heap.size 31 _ (0,0) _ rfl HF.out Tryz.underlying31 rfl zB6) rfl HD.out
   ·cases h1:sk ts en n ⟨#[60]⟩ with
    | false =>
     have Hr:Hid (res=.error (atP ts en n)):=kA1 (Hres.out.symm.trans (ifT_no (k:=2) h1));have ht:=zCt R ts n en ⟨#[60]⟩ wr G.mid.st.rdr hnl h1;unfold zAm at ht;unfold atP at Hr;have l0:=zA1 G.lit 0;have hLl:=zA5 G.lit;clear h1 Hres;go_wp2_with fail;refine ht.mono ?_;rintro e w1 ⟨rfl,hb1⟩;rw[Hr.out];exact⟨rfl,rfl,kAk G.mid.took.grown hb1⟩
    | true =>
     have hlt:=zAv h1;have ht:=zBW R ts n en ⟨#[60]⟩ wr G.mid.st.rdr few h1
     cases hc:zD2 ts en chk ex (n+1) with
     | error q =>
      have Hr:Hid (res=.error q):=kA1 (Hres.out.symm.trans (ifT_err (k:=2) h1 hc));have l0:=zA1 G.lit 0;have hLl:=zA5 G.lit;clear h1 Hres;go_wp2_with fail;refine ht.mono ?_;rintro e w1 ⟨rfl,k1⟩;have G1:=G.go E hRw hXw hLw k1 hlt;have Gd:=G1.below ((kA3 _ w1).drew);have hx:=HS.out (n+1) _ kD4 Gd.mid.st;rw[hc] at hx;unfold zAk zAm at hx;have KK:w1.drew.cell? ⟨X,5,none⟩=some (.slice A5 acc.length c5):=zA1 Gd.blk 5;obtain⟨-,-,kr3,kr4,hRl⟩:=Gd.mid.st.rdr.cells;clear hc G ht k1;go_wp2_with fail;refine kB7 (S:=(fun w'=>w'.cell? ⟨X,5,none⟩=some (.slice A5 acc.length c5)∧w'.cell? ⟨R,4,none⟩=some (.func (.func 135) #[.pointer (some ⟨R,0,none⟩)] #[]))) kD5 ⟨KK,kr4⟩ (fun hHeld=>?_);refine kAx (i:=0) (v:=?v0c1) rfl kD5 kD5 kD5 (fun _ _ _ h=>h) (Or.inl ⟨kD9,?hy0c1⟩) kDb ?rest0c1
      case hy0c1=>(intro w hSw;(try dsimp only at hSw);go_simp;try (with_reducible rfl))
      try simp only[Act.put,kA0,List.set_cons_zero,List.set_cons_succ]
      refine kAx (i:=1) (v:=?v1c2) rfl kD5 kD5 kD5 (fun _ _ _ h=>h) (Or.inl ⟨kD9,?hy1c2⟩) kDb ?rest1c2
      case hy1c2=>(intro w hSw;(try dsimp only at hSw);go_simp;try (with_reducible rfl))
      try simp only[Act.put,kA0,List.set_cons_zero,List.set_cons_succ]
      refine kAx (i:=2) (v:=?v2c3) rfl kD5 kD5 kD5 (fun _ _ _ h=>h) (Or.inl ⟨kD9,?hy2c3⟩) kDb ?rest2c3
      case hy2c3=>(intro w hSw;(try dsimp only at hSw);go_simp;try (with_reducible rfl))
      try simp only[Act.put,kA0,List.set_cons_zero,List.set_cons_succ]
      refine kAx (i:=3) (v:=?v3c4) rfl kD5 kD5 kD5 (fun _ _ _ h=>h) (Or.inl ⟨kD9,?hy3c4⟩) kDb ?rest3c4
      case hy3c4=>(intro w hSw;(try dsimp only at hSw);go_simp;try (with_reducible rfl))
      try simp only[Act.put,kA0,List.set_cons_zero,List.set_cons_succ]
      refine kAx (i:=4) (v:=?v4c5) rfl kD5 kD5 kD5 (fun _ _ _ h=>h) (Or.inl ⟨kD9,?hy4c5⟩) kDb ?rest4c5
      case hy4c5=>(intro w hSw;(try dsimp only at hSw);go_simp;try (with_reducible rfl))
      try simp only[Act.put,kA0,List.set_cons_zero,List.set_cons_succ]
      refine kAx (i:=5) (v:=?v5c6) rfl kD5 kD5 kD5 (fun _ _ _ h=>h) (Or.inl ⟨kD9,?hy5c6⟩) kDb ?rest5c6
      case hy5c6=>(intro w hSw;(try dsimp only at hSw);go_simp;try (with_reducible rfl))
      try simp only[Act.put,kA0,List.set_cons_zero,List.set_cons_succ]
      refine kBO (rs:=[6]) kD5 kD6 ?_;refine kBF rfl (fun K hK=>?_) kBJ;go_simp;go_wp2_with (go_at_call 135;refine hx.mono ?_;rintro e w2 ⟨rfl,hg⟩);rw[Hr.out];exact⟨rfl,rfl,kA7 Gd.mid.took.grown hg⟩
     | ok r =>
      obtain⟨y,n2⟩:=r;have Hr:Hid (ifT ts en chk ex 2 (acc++[y]) n2=res):=kA1 ((ifT_ok (k:=2) h1 hc).symm.trans Hres.out);have l0:=zA1 G.lit 0;have hLl:=zA5 G.lit;have hlen:(acc.length+1)*88≤140737488355328:=by have:=hacc.out;omega
      clear h1 Hres;go_wp2_with fail;refine ht.mono ?_;rintro e w1 ⟨rfl,k1⟩;have G1:=G.go E hRw hXw hLw k1 hlt;have Gd:=G1.below ((kA3 _ w1).drew);have hx:=HS.out (n+1) _ kD4 Gd.mid.st;rw[hc] at hx;unfold zAk at hx;have KK:w1.drew.cell? ⟨X,5,none⟩=some (.slice A5 acc.length c5):=zA1 Gd.blk 5;obtain⟨-,-,kr3,kr4,hRl⟩:=Gd.mid.st.rdr.cells;clear hc G ht k1 l0;go_wp2_with fail;refine zDE (n:=11) (S:=fun w'=>w'.cell? ⟨X,5,none⟩=some (.slice A5 acc.length c5)∧w'.cell? ⟨R,4,none⟩=some (.func (.func 135) #[.pointer (some ⟨R,0,none⟩)] #[])) (ds:=[10]) #[false,false,false,false,false,false,false,false,false,false,false] kD5 rfl rfl ⟨KK,kr4⟩ (fun hHeld=>?_);refine zAq (i:=0) (N:=some 67) (v:=?_) (a':=?_) #[true,false,false,false,false,false,false,false,false,false,false] rfl rfl kD5 (fun _ _ _ h=>h) (Or.inl ⟨kD9,?_⟩) ?_ ?_;rotate_left
      ·intro w';go_simp
       with_reducible rfl
      rotate_left
      ·simp only[Act.put,kA0,List.set_cons_zero,List.set_cons_succ,zAd,zAe];rfl
      refine zAq (i:=2) (N:=some 69) (v:=?_) (a':=?_) #[true,false,true,false,false,false,false,false,false,false,false] rfl rfl kD5 (fun _ _ _ h=>h) (Or.inl ⟨kD9,?_⟩) ?_ ?_;rotate_left
      ·intro w';go_simp
       with_reducible rfl
      rotate_left
      ·simp only[Act.put,kA0,List.set_cons_zero,List.set_cons_succ,zAd,zAe];rfl
      refine zAq (i:=3) (N:=some 70) (v:=?_) (a':=?_) #[true,false,true,true,false,false,false,false,false,false,false] rfl rfl kD5 (fun _ _ _ h=>h) (Or.inl ⟨kD9,?_⟩) ?_ ?_;rotate_left
      ·intro w';go_simp
       with_reducible rfl
      rotate_left
      ·simp only[Act.put,kA0,List.set_cons_zero,List.set_cons_succ,zAd,zAe];rfl
      refine zAq (i:=4) (N:=some 71) (v:=?_) (a':=?_) #[true,false,true,true,true,false,false,false,false,false,false] rfl rfl kD5 (fun _ _ _ h=>h) (Or.inl ⟨kD9,?_⟩) ?_ ?_;rotate_left
      ·intro w';go_simp
       with_reducible rfl
      rotate_left
      ·simp only[Act.put,kA0,List.set_cons_zero,List.set_cons_succ,zAd,zAe];rfl
      refine zDd (i:=1) (N:=some 68) (v:=?_) (a':=?_) #[true,true,true,true,true,false,false,false,false,false,false] rfl rfl kD5 (fun _ _ _ h=>h) (Or.inl ⟨kD9,?_⟩) hHeld ?_ ?_;rotate_left
      ·rintro w'⟨s0,s1⟩;go_simp
       with_reducible rfl
      rotate_left
      ·simp only[Act.put,kA0,List.set_cons_zero,List.set_cons_succ,zAd,zAe];rfl
      refine zDd (i:=5) (N:=some 72) (v:=?_) (a':=?_) #[true,true,true,true,true,true,false,false,false,false,false] rfl rfl kD5 (fun _ _ _ h=>h) (Or.inl ⟨kD9,?_⟩) hHeld ?_ ?_;rotate_left
      ·rintro w'⟨s0,s1⟩;go_simp
       with_reducible rfl
      rotate_left
      ·simp only[Act.put,kA0,List.set_cons_zero,List.set_cons_succ,zAd,zAe];rfl
      refine one_ (i:=6) (N:=some 73) #[true,true,true,true,true,true,true,false,false,false,false] rfl rfl kD5 kD7 (fun K hK=>?_);refine call_ 135 #[.pointer (some ⟨R,0,none⟩)] kD9 rfl (zEh Tryz.func135 kD5 rfl _ rfl rfl kDT) ?_
      with_reducible refine (hx).mono ?_
      rintro e w2⟨hm1,hm2,vy,rfl,hey,k2⟩;refine⟨_,rfl,?_⟩;obtain⟨vy5,A6,n6,c6,rfl,rfl,_,my⟩:=hey.cells;unfold exV;have KK2:=zA1 (k2.blk Gd.blk hXR) 5;obtain⟨-,-,kr23,kr24,-⟩:=k2.rdr.cells;refine hK.out _ _ ⟨KK2,kr24⟩ (fun hHeld=>?_);clear hK K;refine zCc (a':=?_) ?_ ?_;rotate_left
      ·show Act.put _ (some 73) _=_;simp only[Act.put,kA0,List.set_cons_zero,List.set_cons_succ,zAd,zAe];rfl
      refine one_ (i:=7) (N:=some 74) #[true,true,true,true,true,true,true,true,false,false,false] rfl rfl kD5 kD7 (fun K hK=>?_);refine zFA (w1:=?_) (v:=?_) kD9 rfl ?_ ?_;rotate_left 2
      ·go_simp;constructor
       ·rfl
       ·rfl
      refine hK.out _ _ ⟨(zA0 ((kA3 _ _).alloc (kA2 _) _) KK2),(zA0 ((kA3 _ _).alloc (kA2 _) _) kr24)⟩ (fun hHeld=>?_);clear hK K;refine zCc (a':=?_) ?_ ?_;rotate_left
      ·show Act.put _ (some 74) _=_;simp only[Act.put,kA0,List.set_cons_zero,List.set_cons_succ,zAd,zAe];rfl
      refine one_ (i:=8) (N:=some 75) #[true,true,true,true,true,true,true,true,true,false,false] rfl rfl kD5 kD7 (fun K hK=>?_);have row2:=Kd.R_grown Gd.row k2.grown (fun k hk e=>by injection e with e;have:=hk.1;omega);have hokp:∀k,From w1.drew.heap.size k→Si w X LS k∧some k≠(Value.slice A5 acc.length c5).ownBlock:=(fun k hk=>⟨⟨by have:=zA5 Gd.mid.res;have:w1.drew.heap.size≤k:=hk;omega,by have:=zA5 Gd.blk;have:w1.drew.heap.size≤k:=hk;omega,by have:=zA5 Gd.lit;have:w1.drew.heap.size≤k:=hk;omega⟩,Kd.fresh_ok Gd.row k hk⟩);have hfresh:∀k,w2.heap.size≤k→Si w X LS k:=(fun k hk=>⟨by have:=zA5 Gd.mid.res;have:=k2.grown.size;omega,by have:=zA5 Gd.blk;have:=k2.grown.size;omega,by have:=zA5 Gd.lit;have:=k2.grown.size;omega⟩);have HB:=(kA3 0 w).grown (kA7 Gd.mid.took.grown k2.grown) (kAI _) (fun _ _=>kAI _);refine Kd.R_append_step k31 (w0:=w) (W:=w2) 0 rfl (.tmp 68) (.tmp 74) 29 31 _ 88 rfl Tryz.underlying29 info31 rfl kD7 kD7 (.slice A5 acc.length c5) acc y _ (Si w X LS) (From w1.drew.heap.size) rfl rfl my hokp hfresh row2 HB (kAI _) hlen ?_;intro v1 w4 hrow hb4 hg4 hat4;obtain⟨A1,c1,rfl⟩:=Kd.R_slice hrow;obtain⟨hX4,hR4,G4⟩:=Gd.next E hRw hXw hLw hXL k2 hm2 hrow hg4
      have KK4:=zA1 hX4 5;have F5:=zA2 hX4 5;obtain⟨-,-,kr43,kr44,-⟩:=hR4.cells;clear hrow hb4 hg4 hat4 row2 hokp hfresh HB my hey;refine hK.out _ _ ⟨KK4,kr44⟩ (fun hHeld=>?_);clear hK K;refine zCc (a':=?_) ?_ ?_;rotate_left
      ·show Act.put _ (some 75) _=_;simp only[Act.put,kA0,List.set_cons_zero,List.set_cons_succ,zAd,zAe];rfl
      refine zAq (i:=9) (N:=some 76) (v:=?_) (a':=?_) #[true,true,true,true,true,true,true,true,true,true,false] rfl rfl kD5 (fun _ _ _ h=>h) (Or.inl ⟨kD9,?_⟩) ?_ ?_;rotate_left
      ·intro w';go_simp
       with_reducible rfl
      rotate_left
      ·simp only[Act.put,kA0,List.set_cons_zero,List.set_cons_succ,zAd,zAe];rfl
      refine last_ (i:=10) (N:=none) #[true,true,true,true,true,true,true,true,true,true,true] rfl rfl kD5 kD7 (fun K hK=>?_);refine skip_ (w1:=?_) kD9 rfl ?_ ?_;rotate_left
      ·go_simp;rfl
      refine hK.out _ _ ?_;clear hK K;refine done_ kD5 ?_;go_wp2_with fail;go_roundg 2
      case measure=>omega
      case rel=>exact⟨1,acc++[y],n2,_,rfl,kD4,rfl,kA1 kDU,kD4,hm2,by have h:=G4;rw[kAt] at h;exact h,Hr⟩
   ·cases h1:sk ts en n ⟨#[116,104,101,110]⟩ with
    | false =>
     have Hr:Hid (res=.error (atP ts en n)):=kA1 (Hres.out.symm.trans (ifT_no (k:=1) h1));have ht:=zCt R ts n en ⟨#[116,104,101,110]⟩ wr G.mid.st.rdr hnl h1;unfold zAm at ht;unfold atP at Hr;have l0:=zA1 G.lit 1;have hLl:=zA5 G.lit;clear h1 Hres;go_wp2_with fail;refine ht.mono ?_;rintro e w1 ⟨rfl,hb1⟩;rw[Hr.out];exact⟨rfl,rfl,kAk G.mid.took.grown hb1⟩
    | true =>
     have hlt:=zAv h1;have ht:=zBW R ts n en ⟨#[116,104,101,110]⟩ wr G.mid.st.rdr few h1
     cases hc:ex (n+1) with
     | error q =>
      have Hr:Hid (res=.error q):=kA1 (Hres.out.symm.trans (ifT_err (k:=1) h1 hc));have l0:=zA1 G.lit 1;have hLl:=zA5 G.lit;clear h1 Hres;go_wp2_with fail;refine ht.mono ?_;rintro e w1 ⟨rfl,k1⟩;have G1:=G.go E hRw hXw hLw k1 hlt;have Gd:=G1.below ((kA3 _ w1).drew);have hx:=HX.out (n+1) _ kD4 Gd.mid.st;rw[hc] at hx;unfold zAk zAm at hx;have KK:w1.drew.cell? ⟨X,5,none⟩=some (.slice A5 acc.length c5):=zA1 Gd.blk 5;obtain⟨-,-,kr3,kr4,hRl⟩:=Gd.mid.st.rdr.cells;clear hc G ht k1;go_wp2_with fail;refine kB7 (S:=(fun w'=>w'.cell? ⟨X,5,none⟩=some (.slice A5 acc.length c5)∧w'.cell? ⟨R,3,none⟩=some (.func (.func 134) #[] #[]))) kD5 ⟨KK,kr3⟩ (fun hHeld=>?_);refine kAx (i:=0) (v:=?v0c7) rfl kD5 kD5 kD5 (fun _ _ _ h=>h) (Or.inl ⟨kD9,?hy0c7⟩) kDb ?rest0c7
      case hy0c7=>(intro w hSw;(try dsimp only at hSw);go_simp;try (with_reducible rfl))
      try simp only[Act.put,kA0,List.set_cons_zero,List.set_cons_succ]
      refine kAx (i:=1) (v:=?v1c8) rfl kD5 kD5 kD5 (fun _ _ _ h=>h) (Or.inl ⟨kD9,?hy1c8⟩) kDb ?rest1c8
      case hy1c8=>(intro w hSw;(try dsimp only at hSw);go_simp;try (with_reducible rfl))
      try simp only[Act.put,kA0,List.set_cons_zero,List.set_cons_succ]
      refine kAx (i:=2) (v:=?v2c9) rfl kD5 kD5 kD5 (fun _ _ _ h=>h) (Or.inl ⟨kD9,?hy2c9⟩) kDb ?rest2c9
      case hy2c9=>(intro w hSw;(try dsimp only at hSw);go_simp;try (with_reducible rfl))
      try simp only[Act.put,kA0,List.set_cons_zero,List.set_cons_succ]
      refine kAx (i:=3) (v:=?v3c10) rfl kD5 kD5 kD5 (fun _ _ _ h=>h) (Or.inl ⟨kD9,?hy3c10⟩) kDb ?rest3c10
      case hy3c10=>(intro w hSw;(try dsimp only at hSw);go_simp;try (with_reducible rfl))
      try simp only[Act.put,kA0,List.set_cons_zero,List.set_cons_succ]
      refine kAx (i:=4) (v:=?v4c11) rfl kD5 kD5 kD5 (fun _ _ _ h=>h) (Or.inl ⟨kD9,?hy4c11⟩) kDb ?rest4c11
      case hy4c11=>(intro w hSw;(try dsimp only at hSw);go_simp;try (with_reducible rfl))
      try simp only[Act.put,kA0,List.set_cons_zero,List.set_cons_succ]
      refine kAx (i:=5) (v:=?v5c12) rfl kD5 kD5 kD5 (fun _ _ _ h=>h) (Or.inl ⟨kD9,?hy5c12⟩) kDb ?rest5c12
      case hy5c12=>(intro w hSw;(try dsimp only at hSw);go_simp;try (with_reducible rfl))
      try simp only[Act.put,kA0,List.set_cons_zero,List.set_cons_succ]
      refine kAx (i:=6) (v:=?v6c13) rfl kD5 kD5 kD5 (fun _ _ _ h=>h) (Or.inl ⟨kD9,?hy6c13⟩) kDb ?rest6c13
      case hy6c13=>(intro w hSw;(try dsimp only at hSw);go_simp;try (with_reducible rfl))
      try simp only[Act.put,kA0,List.set_cons_zero,List.set_cons_succ]
      refine kBO (rs:=[7]) kD5 kD6 ?_;refine kBF rfl (fun K hK=>?_) kBJ;go_simp;go_wp2_with (go_at_call 134;refine hx.mono ?_;rintro e w2 ⟨rfl,hg⟩);rw[Hr.out];exact⟨rfl,rfl,kA7 Gd.mid.took.grown hg⟩
     | ok r =>
      obtain⟨y,n2⟩:=r;have Hr:Hid (ifT ts en chk ex 1 (acc++[y]) n2=res):=kA1 ((ifT_ok (k:=1) h1 hc).symm.trans Hres.out);have l0:=zA1 G.lit 1;have hLl:=zA5 G.lit;have hlen:(acc.length+1)*88≤140737488355328:=by have:=hacc.out;omega
      clear h1 Hres;go_wp2_with fail;refine ht.mono ?_;rintro e w1 ⟨rfl,k1⟩;have G1:=G.go E hRw hXw hLw k1 hlt;have Gd:=G1.below ((kA3 _ w1).drew);have hx:=HX.out (n+1) _ kD4 Gd.mid.st;rw[hc] at hx;unfold zAk at hx;have KK:w1.drew.cell? ⟨X,5,none⟩=some (.slice A5 acc.length c5):=zA1 Gd.blk 5;obtain⟨-,-,kr3,kr4,hRl⟩:=Gd.mid.st.rdr.cells;clear hc G ht k1 l0;go_wp2_with fail;refine zDE (n:=12) (S:=fun w'=>w'.cell? ⟨X,5,none⟩=some (.slice A5 acc.length c5)∧w'.cell? ⟨R,3,none⟩=some (.func (.func 134) #[] #[])) (ds:=[11]) #[false,false,false,false,false,false,false,false,false,false,false,false] kD5 rfl rfl ⟨KK,kr3⟩ (fun hHeld=>?_);refine zAq (i:=0) (N:=some 77) (v:=?_) (a':=?_) #[true,false,false,false,false,false,false,false,false,false,false,false] rfl rfl kD5 (fun _ _ _ h=>h) (Or.inl ⟨kD9,?_⟩) ?_ ?_;rotate_left
      ·intro w';go_simp
       with_reducible rfl
      rotate_left
      ·simp only[Act.put,kA0,List.set_cons_zero,List.set_cons_succ,zAd,zAe];rfl
      refine zAq (i:=2) (N:=some 79) (v:=?_) (a':=?_) #[true,false,true,false,false,false,false,false,false,false,false,false] rfl rfl kD5 (fun _ _ _ h=>h) (Or.inl ⟨kD9,?_⟩) ?_ ?_;rotate_left
      ·intro w';go_simp
       with_reducible rfl
      rotate_left
      ·simp only[Act.put,kA0,List.set_cons_zero,List.set_cons_succ,zAd,zAe];rfl
      refine zAq (i:=3) (N:=some 80) (v:=?_) (a':=?_) #[true,false,true,true,false,false,false,false,false,false,false,false] rfl rfl kD5 (fun _ _ _ h=>h) (Or.inl ⟨kD9,?_⟩) ?_ ?_;rotate_left
      ·intro w';go_simp
       with_reducible rfl
      rotate_left
      ·simp only[Act.put,kA0,List.set_cons_zero,List.set_cons_succ,zAd,zAe];rfl
      refine zAq (i:=4) (N:=some 81) (v:=?_) (a':=?_) #[true,false,true,true,true,false,false,false,false,false,false,false] rfl rfl kD5 (fun _ _ _ h=>h) (Or.inl ⟨kD9,?_⟩) ?_ ?_;rotate_left
      ·intro w';go_simp
       with_reducible rfl
      rotate_left
      ·simp only[Act.put,kA0,List.set_cons_zero,List.set_cons_succ,zAd,zAe];rfl
      refine zAq (i:=6) (N:=some 83) (v:=?_) (a':=?_) #[true,false,true,true,true,false,true,false,false,false,false,false] rfl rfl kD5 (fun _ _ _ h=>h) (Or.inl ⟨kD9,?_⟩) ?_ ?_;rotate_left
      ·intro w';go_simp
       with_reducible rfl
      rotate_left
      ·simp only[Act.put,kA0,List.set_cons_zero,List.set_cons_succ,zAd,zAe];rfl
      refine zDd (i:=1) (N:=some 78) (v:=?_) (a':=?_) #[true,true,true,true,true,false,true,false,false,false,false,false] rfl rfl kD5 (fun _ _ _ h=>h) (Or.inl ⟨kD9,?_⟩) hHeld ?_ ?_;rotate_left
      ·rintro w'⟨s0,s1⟩;go_simp
       with_reducible rfl
      rotate_left
      ·simp only[Act.put,kA0,List.set_cons_zero,List.set_cons_succ,zAd,zAe];rfl
      refine zDd (i:=5) (N:=some 82) (v:=?_) (a':=?_) #[true,true,true,true,true,true,true,false,false,false,false,false] rfl rfl kD5 (fun _ _ _ h=>h) (Or.inl ⟨kD9,?_⟩) hHeld ?_ ?_;rotate_left
      ·rintro w'⟨s0,s1⟩;go_simp
       with_reducible rfl
      rotate_left
      ·simp only[Act.put,kA0,List.set_cons_zero,List.set_cons_succ,zAd,zAe];rfl
      refine one_ (i:=7) (N:=some 84) #[true,true,true,true,true,true,true,true,false,false,false,false] rfl rfl kD5 kD7 (fun K hK=>?_);refine call_ 134 #[.pointer (some ⟨R,0,none⟩)] kD9 rfl (zEh Tryz.func134 kD5 rfl _ rfl rfl kDT) ?_
      with_reducible refine (hx).mono ?_
      rintro e w2⟨hm1,hm2,vy,rfl,hey,k2⟩;refine⟨_,rfl,?_⟩;obtain⟨vy5,A6,n6,c6,rfl,rfl,_,my⟩:=hey.cells;unfold exV;have KK2:=zA1 (k2.blk Gd.blk hXR) 5;obtain⟨-,-,kr23,kr24,-⟩:=k2.rdr.cells;refine hK.out _ _ ⟨KK2,kr23⟩ (fun hHeld=>?_);clear hK K;refine zCc (a':=?_) ?_ ?_;rotate_left
      ·show Act.put _ (some 84) _=_;simp only[Act.put,kA0,List.set_cons_zero,List.set_cons_succ,zAd,zAe];rfl
      refine one_ (i:=8) (N:=some 85) #[true,true,true,true,true,true,true,true,true,false,false,false] rfl rfl kD5 kD7 (fun K hK=>?_);refine zFA (w1:=?_) (v:=?_) kD9 rfl ?_ ?_;rotate_left 2
      ·go_simp;constructor
       ·rfl
       ·rfl
      refine hK.out _ _ ⟨(zA0 ((kA3 _ _).alloc (kA2 _) _) KK2),(zA0 ((kA3 _ _).alloc (kA2 _) _) kr23)⟩ (fun hHeld=>?_);clear hK K;refine zCc (a':=?_) ?_ ?_;rotate_left
      ·show Act.put _ (some 85) _=_;simp only[Act.put,kA0,List.set_cons_zero,List.set_cons_succ,zAd,zAe];rfl
      refine one_ (i:=9) (N:=some 86) #[true,true,true,true,true,true,true,true,true,true,false,false] rfl rfl kD5 kD7 (fun K hK=>?_);have row2:=Kd.R_grown Gd.row k2.grown (fun k hk e=>by injection e with e;have:=hk.1;omega);have hokp:∀k,From w1.drew.heap.size k→Si w X LS k∧some k≠(Value.slice A5 acc.length c5).ownBlock:=(fun k hk=>⟨⟨by have:=zA5 Gd.mid.res;have:w1.drew.heap.size≤k:=hk;omega,by have:=zA5 Gd.blk;have:w1.drew.heap.size≤k:=hk;omega,by have:=zA5 Gd.lit;have:w1.drew.heap.size≤k:=hk;omega⟩,Kd.fresh_ok Gd.row k hk⟩);have hfresh:∀k,w2.heap.size≤k→Si w X LS k:=(fun k hk=>⟨by have:=zA5 Gd.mid.res;have:=k2.grown.size;omega,by have:=zA5 Gd.blk;have:=k2.grown.size;omega,by have:=zA5 Gd.lit;have:=k2.grown.size;omega⟩);have HB:=(kA3 0 w).grown (kA7 Gd.mid.took.grown k2.grown) (kAI _) (fun _ _=>kAI _);refine Kd.R_append_step k31 (w0:=w) (W:=w2) 0 rfl (.tmp 78) (.tmp 85) 29 31 _ 88 rfl Tryz.underlying29 info31 rfl kD7 kD7 (.slice A5 acc.length c5) acc y _ (Si w X LS) (From w1.drew.heap.size) rfl rfl my hokp hfresh row2 HB (kAI _) hlen ?_;intro v1 w4 hrow hb4 hg4 hat4;obtain⟨A1,c1,rfl⟩:=Kd.R_slice hrow;obtain⟨hX4,hR4,G4⟩:=Gd.next E hRw hXw hLw hXL k2 hm2 hrow hg4
      have KK4:=zA1 hX4 5;have F5:=zA2 hX4 5;obtain⟨-,-,kr43,kr44,-⟩:=hR4.cells;clear hrow hb4 hg4 hat4 row2 hokp hfresh HB my hey;refine hK.out _ _ ⟨KK4,kr43⟩ (fun hHeld=>?_);clear hK K;refine zCc (a':=?_) ?_ ?_;rotate_left
      ·show Act.put _ (some 86) _=_;simp only[Act.put,kA0,List.set_cons_zero,List.set_cons_succ,zAd,zAe];rfl
      refine zAq (i:=10) (N:=some 87) (v:=?_) (a':=?_) #[true,true,true,true,true,true,true,true,true,true,true,false] rfl rfl kD5 (fun _ _ _ h=>h) (Or.inl ⟨kD9,?_⟩) ?_ ?_;rotate_left
      ·intro w';go_simp
       with_reducible rfl
      rotate_left
      ·simp only[Act.put,kA0,List.set_cons_zero,List.set_cons_succ,zAd,zAe];rfl
      refine last_ (i:=11) (N:=none) #[true,true,true,true,true,true,true,true,true,true,true,true] rfl rfl kD5 kD7 (fun K hK=>?_);refine skip_ (w1:=?_) kD9 rfl ?_ ?_;rotate_left
      ·go_simp;rfl
      refine hK.out _ _ ?_;clear hK K;refine done_ kD5 ?_;go_wp2_with fail;go_roundg 1
      case measure=>omega
      case rel=>exact⟨2,acc++[y],n2,_,rfl,kD4,rfl,kA1 kDU,kD4,hm2,by have h:=G4;rw[kAt] at h;exact h,Hr⟩
   ·cases h1:sk ts en n ⟨#[101,108,115,101]⟩ with
    | false =>
     have Hr:Hid (res=.error (atP ts en n)):=kA1 (Hres.out.symm.trans (ifT_no (k:=0) h1));have ht:=zCt R ts n en ⟨#[101,108,115,101]⟩ wr G.mid.st.rdr hnl h1;unfold zAm at ht;unfold atP at Hr;have l0:=zA1 G.lit 2;have hLl:=zA5 G.lit;clear h1 Hres;go_wp2_with fail;refine ht.mono ?_;rintro e w1 ⟨rfl,hb1⟩;rw[Hr.out];exact⟨rfl,rfl,kAk G.mid.took.grown hb1⟩
    | true =>
     have hlt:=zAv h1;have ht:=zBW R ts n en ⟨#[101,108,115,101]⟩ wr G.mid.st.rdr few h1
     cases hc:ex (n+1) with
     | error q =>
      have Hr:Hid (res=.error q):=kA1 (Hres.out.symm.trans (ifT_err (k:=0) h1 hc));have l0:=zA1 G.lit 2;have hLl:=zA5 G.lit;clear h1 Hres;go_wp2_with fail;refine ht.mono ?_;rintro e w1 ⟨rfl,k1⟩;have G1:=G.go E hRw hXw hLw k1 hlt;have Gd:=G1.below ((kA3 _ w1).drew);have hx:=HX.out (n+1) _ kD4 Gd.mid.st;rw[hc] at hx;unfold zAk zAm at hx;have KK:w1.drew.cell? ⟨X,5,none⟩=some (.slice A5 acc.length c5):=zA1 Gd.blk 5;obtain⟨-,-,kr3,kr4,hRl⟩:=Gd.mid.st.rdr.cells;clear hc G ht k1;go_wp2_with fail;refine kB7 (S:=(fun w'=>w'.cell? ⟨X,5,none⟩=some (.slice A5 acc.length c5)∧w'.cell? ⟨R,3,none⟩=some (.func (.func 134) #[] #[]))) kD5 ⟨KK,kr3⟩ (fun hHeld=>?_);refine kAx (i:=0) (v:=?v0c14) rfl kD5 kD5 kD5 (fun _ _ _ h=>h) (Or.inl ⟨kD9,?hy0c14⟩) kDb ?rest0c14
      case hy0c14=>(intro w hSw;(try dsimp only at hSw);go_simp;try (with_reducible rfl))
      try simp only[Act.put,kA0,List.set_cons_zero,List.set_cons_succ]
      refine kAx (i:=1) (v:=?v1c15) rfl kD5 kD5 kD5 (fun _ _ _ h=>h) (Or.inl ⟨kD9,?hy1c15⟩) kDb ?rest1c15
      case hy1c15=>(intro w hSw;(try dsimp only at hSw);go_simp;try (with_reducible rfl))
      try simp only[Act.put,kA0,List.set_cons_zero,List.set_cons_succ]
      refine kAx (i:=2) (v:=?v2c16) rfl kD5 kD5 kD5 (fun _ _ _ h=>h) (Or.inl ⟨kD9,?hy2c16⟩) kDb ?rest2c16
      case hy2c16=>(intro w hSw;(try dsimp only at hSw);go_simp;try (with_reducible rfl))
      try simp only[Act.put,kA0,List.set_cons_zero,List.set_cons_succ]
      refine kAx (i:=3) (v:=?v3c17) rfl kD5 kD5 kD5 (fun _ _ _ h=>h) (Or.inl ⟨kD9,?hy3c17⟩) kDb ?rest3c17
      case hy3c17=>(intro w hSw;(try dsimp only at hSw);go_simp;try (with_reducible rfl))
      try simp only[Act.put,kA0,List.set_cons_zero,List.set_cons_succ]
      refine kAx (i:=4) (v:=?v4c18) rfl kD5 kD5 kD5 (fun _ _ _ h=>h) (Or.inl ⟨kD9,?hy4c18⟩) kDb ?rest4c18
      case hy4c18=>(intro w hSw;(try dsimp only at hSw);go_simp;try (with_reducible rfl))
      try simp only[Act.put,kA0,List.set_cons_zero,List.set_cons_succ]
      refine kAx (i:=5) (v:=?v5c19) rfl kD5 kD5 kD5 (fun _ _ _ h=>h) (Or.inl ⟨kD9,?hy5c19⟩) kDb ?rest5c19
      case hy5c19=>(intro w hSw;(try dsimp only at hSw);go_simp;try (with_reducible rfl))
      try simp only[Act.put,kA0,List.set_cons_zero,List.set_cons_succ]
      refine kAx (i:=6) (v:=?v6c20) rfl kD5 kD5 kD5 (fun _ _ _ h=>h) (Or.inl ⟨kD9,?hy6c20⟩) kDb ?rest6c20
      case hy6c20=>(intro w hSw;(try dsimp only at hSw);go_simp;try (with_reducible rfl))
      try simp only[Act.put,kA0,List.set_cons_zero,List.set_cons_succ]
      refine kBO (rs:=[7]) kD5 kD6 ?_;refine kBF rfl (fun K hK=>?_) kBJ;go_simp;go_wp2_with (go_at_call 134;refine hx.mono ?_;rintro e w2 ⟨rfl,hg⟩);rw[Hr.out];exact⟨rfl,rfl,kA7 Gd.mid.took.grown hg⟩
     | ok r =>
      obtain⟨y,n2⟩:=r;have Hr:Hid (ifT ts en chk ex 0 (acc++[y]) n2=res):=kA1 ((ifT_ok (k:=0) h1 hc).symm.trans Hres.out);have l0:=zA1 G.lit 2;have hLl:=zA5 G.lit;have hlen:(acc.length+1)*88≤140737488355328:=by have:=hacc.out;omega
      clear h1 Hres;go_wp2_with fail;refine ht.mono ?_;rintro e w1 ⟨rfl,k1⟩;have G1:=G.go E hRw hXw hLw k1 hlt;have Gd:=G1.below ((kA3 _ w1).drew);have hx:=HX.out (n+1) _ kD4 Gd.mid.st;rw[hc] at hx;unfold zAk at hx;have KK:w1.drew.cell? ⟨X,5,none⟩=some (.slice A5 acc.length c5):=zA1 Gd.blk 5;obtain⟨-,-,kr3,kr4,hRl⟩:=Gd.mid.st.rdr.cells;clear hc G ht k1 l0;go_wp2_with fail;refine zDE (n:=12) (S:=fun w'=>w'.cell? ⟨X,5,none⟩=some (.slice A5 acc.length c5)∧w'.cell? ⟨R,3,none⟩=some (.func (.func 134) #[] #[])) (ds:=[11]) #[false,false,false,false,false,false,false,false,false,false,false,false] kD5 rfl rfl ⟨KK,kr3⟩ (fun hHeld=>?_);refine zAq (i:=0) (N:=some 77) (v:=?_) (a':=?_) #[true,false,false,false,false,false,false,false,false,false,false,false] rfl rfl kD5 (fun _ _ _ h=>h) (Or.inl ⟨kD9,?_⟩) ?_ ?_;rotate_left
      ·intro w';go_simp
       with_reducible rfl
      rotate_left
      ·simp only[Act.put,kA0,List.set_cons_zero,List.set_cons_succ,zAd,zAe];rfl
      refine zAq (i:=2) (N:=some 79) (v:=?_) (a':=?_) #[true,false,true,false,false,false,false,false,false,false,false,false] rfl rfl kD5 (fun _ _ _ h=>h) (Or.inl ⟨kD9,?_⟩) ?_ ?_;rotate_left
      ·intro w';go_simp
       with_reducible rfl
      rotate_left
      ·simp only[Act.put,kA0,List.set_cons_zero,List.set_cons_succ,zAd,zAe];rfl
      refine zAq (i:=3) (N:=some 80) (v:=?_) (a':=?_) #[true,false,true,true,false,false,false,false,false,false,false,false] rfl rfl kD5 (fun _ _ _ h=>h) (Or.inl ⟨kD9,?_⟩) ?_ ?_;rotate_left
      ·intro w';go_simp
       with_reducible rfl
      rotate_left
      ·simp only[Act.put,kA0,List.set_cons_zero,List.set_cons_succ,zAd,zAe];rfl
      refine zAq (i:=4) (N:=some 81) (v:=?_) (a':=?_) #[true,false,true,true,true,false,false,false,false,false,false,false] rfl rfl kD5 (fun _ _ _ h=>h) (Or.inl ⟨kD9,?_⟩) ?_ ?_;rotate_left
      ·intro w';go_simp
       with_reducible rfl
      rotate_left
      ·simp only[Act.put,kA0,List.set_cons_zero,List.set_cons_succ,zAd,zAe];rfl
      refine zAq (i:=6) (N:=some 83) (v:=?_) (a':=?_) #[true,false,true,true,true,false,true,false,false,false,false,false] rfl rfl kD5 (fun _ _ _ h=>h) (Or.inl ⟨kD9,?_⟩) ?_ ?_;rotate_left
      ·intro w';go_simp
       with_reducible rfl
      rotate_left
      ·simp only[Act.put,kA0,List.set_cons_zero,List.set_cons_succ,zAd,zAe];rfl
      refine zDd (i:=1) (N:=some 78) (v:=?_) (a':=?_) #[true,true,true,true,true,false,true,false,false,false,false,false] rfl rfl kD5 (fun _ _ _ h=>h) (Or.inl ⟨kD9,?_⟩) hHeld ?_ ?_;rotate_left
      ·rintro w'⟨s0,s1⟩;go_simp
       with_reducible rfl
      rotate_left
      ·simp only[Act.put,kA0,List.set_cons_zero,List.set_cons_succ,zAd,zAe];rfl
      refine zDd (i:=5) (N:=some 82) (v:=?_) (a':=?_) #[true,true,true,true,true,true,true,false,false,false,false,false] rfl rfl kD5 (fun _ _ _ h=>h) (Or.inl ⟨kD9,?_⟩) hHeld ?_ ?_;rotate_left
      ·rintro w'⟨s0,s1⟩;go_simp
       with_reducible rfl
      rotate_left
      ·simp only[Act.put,kA0,List.set_cons_zero,List.set_cons_succ,zAd,zAe];rfl
      refine one_ (i:=7) (N:=some 84) #[true,true,true,true,true,true,true,true,false,false,false,false] rfl rfl kD5 kD7 (fun K hK=>?_);refine call_ 134 #[.pointer (some ⟨R,0,none⟩)] kD9 rfl (zEh Tryz.func134 kD5 rfl _ rfl rfl kDT) ?_
      with_reducible refine (hx).mono ?_
      rintro e w2⟨hm1,hm2,vy,rfl,hey,k2⟩;refine⟨_,rfl,?_⟩;obtain⟨vy5,A6,n6,c6,rfl,rfl,_,my⟩:=hey.cells;unfold exV;have KK2:=zA1 (k2.blk Gd.blk hXR) 5;obtain⟨-,-,kr23,kr24,-⟩:=k2.rdr.cells;refine hK.out _ _ ⟨KK2,kr23⟩ (fun hHeld=>?_);clear hK K;refine zCc (a':=?_) ?_ ?_;rotate_left
      ·show Act.put _ (some 84) _=_;simp only[Act.put,kA0,List.set_cons_zero,List.set_cons_succ,zAd,zAe];rfl
      refine one_ (i:=8) (N:=some 85) #[true,true,true,true,true,true,true,true,true,false,false,false] rfl rfl kD5 kD7 (fun K hK=>?_);refine zFA (w1:=?_) (v:=?_) kD9 rfl ?_ ?_;rotate_left 2
      ·go_simp;constructor
       ·rfl
       ·rfl
      refine hK.out _ _ ⟨(zA0 ((kA3 _ _).alloc (kA2 _) _) KK2),(zA0 ((kA3 _ _).alloc (kA2 _) _) kr23)⟩ (fun hHeld=>?_);clear hK K;refine zCc (a':=?_) ?_ ?_;rotate_left
      ·show Act.put _ (some 85) _=_;simp only[Act.put,kA0,List.set_cons_zero,List.set_cons_succ,zAd,zAe];rfl
      refine one_ (i:=9) (N:=some 86) #[true,true,true,true,true,true,true,true,true,true,false,false] rfl rfl kD5 kD7 (fun K hK=>?_);have row2:=Kd.R_grown Gd.row k2.grown (fun k hk e=>by injection e with e;have:=hk.1;omega);have hokp:∀k,From w1.drew.heap.size k→Si w X LS k∧some k≠(Value.slice A5 acc.length c5).ownBlock:=(fun k hk=>⟨⟨by have:=zA5 Gd.mid.res;have:w1.drew.heap.size≤k:=hk;omega,by have:=zA5 Gd.blk;have:w1.drew.heap.size≤k:=hk;omega,by have:=zA5 Gd.lit;have:w1.drew.heap.size≤k:=hk;omega⟩,Kd.fresh_ok Gd.row k hk⟩);have hfresh:∀k,w2.heap.size≤k→Si w X LS k:=(fun k hk=>⟨by have:=zA5 Gd.mid.res;have:=k2.grown.size;omega,by have:=zA5 Gd.blk;have:=k2.grown.size;omega,by have:=zA5 Gd.lit;have:=k2.grown.size;omega⟩);have HB:=(kA3 0 w).grown (kA7 Gd.mid.took.grown k2.grown) (kAI _) (fun _ _=>kAI _);refine Kd.R_append_step k31 (w0:=w) (W:=w2) 0 rfl (.tmp 78) (.tmp 85) 29 31 _ 88 rfl Tryz.underlying29 info31 rfl kD7 kD7 (.slice A5 acc.length c5) acc y _ (Si w X LS) (From w1.drew.heap.size) rfl rfl my hokp hfresh row2 HB (kAI _) hlen ?_;intro v1 w4 hrow hb4 hg4 hat4;obtain⟨A1,c1,rfl⟩:=Kd.R_slice hrow;obtain⟨hX4,hR4,G4⟩:=Gd.next E hRw hXw hLw hXL k2 hm2 hrow hg4
      have KK4:=zA1 hX4 5;have F5:=zA2 hX4 5;obtain⟨-,-,kr43,kr44,-⟩:=hR4.cells;clear hrow hb4 hg4 hat4 row2 hokp hfresh HB my hey;refine hK.out _ _ ⟨KK4,kr43⟩ (fun hHeld=>?_);clear hK K;refine zCc (a':=?_) ?_ ?_;rotate_left
      ·show Act.put _ (some 86) _=_;simp only[Act.put,kA0,List.set_cons_zero,List.set_cons_succ,zAd,zAe];rfl
      refine zAq (i:=10) (N:=some 87) (v:=?_) (a':=?_) #[true,true,true,true,true,true,true,true,true,true,true,false] rfl rfl kD5 (fun _ _ _ h=>h) (Or.inl ⟨kD9,?_⟩) ?_ ?_;rotate_left
      ·intro w';go_simp
       with_reducible rfl
      rotate_left
      ·simp only[Act.put,kA0,List.set_cons_zero,List.set_cons_succ,zAd,zAe];rfl
      refine last_ (i:=11) (N:=none) #[true,true,true,true,true,true,true,true,true,true,true,true] rfl rfl kD5 kD7 (fun K hK=>?_);refine skip_ (w1:=?_) kD9 rfl ?_ ?_;rotate_left
      ·go_simp;rfl
      refine hK.out _ _ ?_;clear hK K;refine done_ kD5 ?_;go_wp2_with fail;go_roundg 0
      case measure=>omega
      case rel=>exact⟨3,acc++[y],n2,_,rfl,kD4,rfl,kA1 kDU,kD4,hm2,by have h:=G4;rw[kAt] at h;exact h,Hr⟩
end Go.Proofs.YtjaobihcdkjmbaaGreatDoor
end
