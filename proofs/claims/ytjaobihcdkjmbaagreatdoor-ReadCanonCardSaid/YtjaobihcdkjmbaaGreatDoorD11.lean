/- What can be read as an expression is printed as a text that reads as the same, and is printed as itself: for every argument; a part of its proof. -/
import Derived.Test.YtjaobihcdkjmbaaGreatDoorDa
import Derived.Test.YtjaobihcdkjmbaaGreatDoorDb
import Derived.Test.YtjaobihcdkjmbaaGreatDoorD0
import Derived.Test.YtjaobihcdkjmbaaGreatDoorD1
import Derived.Test.YtjaobihcdkjmbaaGreatDoorD2
import Derived.Test.YtjaobihcdkjmbaaGreatDoorD7
import Derived.Test.YtjaobihcdkjmbaaGreatDoorD8
import Derived.Test.YtjaobihcdkjmbaaGreatDoorD9
import Derived.Test.YtjaobihcdkjmbaaGreatDoorD10
set_option linter.unusedVariables false
set_option linter.unusedSimpArgs false
namespace Go.Proofs.YtjaobihcdkjmbaaGreatDoor.PReadTokens
end Go.Proofs.YtjaobihcdkjmbaaGreatDoor.PReadTokens
namespace Go.Proofs.YtjaobihcdkjmbaaGreatDoorW.PrintLast
end Go.Proofs.YtjaobihcdkjmbaaGreatDoorW.PrintLast
namespace Go.Proofs.YtjaobihcdkjmbaaGreatDoorW.PrintMore
end Go.Proofs.YtjaobihcdkjmbaaGreatDoorW.PrintMore
namespace Go.Proofs.YtjaobihcdkjmbaaGreatDoorW.PrintWords
end Go.Proofs.YtjaobihcdkjmbaaGreatDoorW.PrintWords
set_option maxRecDepth 100000
set_option maxHeartbeats 8000000
section
namespace Go.Proofs.YtjaobihcdkjmbaaGreatDoor
open Go.RowKit Go.Proofs.YtjaobihcdkjmbaaGreatDoorW.PrintWords Go.Proofs.YtjaobihcdkjmbaaGreatDoor.PReadTokens
section
attribute [local go_sem] Oper.semAt_some
theorem zAD (w:World) (o:Obj) (k:Nat) (h:k=w.heap.size):(w.alloc o).heap[k]?=some o:=by rw[h];exact zA4 w o
def badOf (ts:List S47):Option S47:=ts.find? (fun t=>t.f0 == -1)
theorem badOf_none {ts:List S47} (h:∀t∈ts,(t.f0 == -1)=false):badOf ts=none:=by
 unfold badOf;rw[List.find?_eq_none];intro t ht;rw[h t ht];simp
theorem badOf_some {init rest:List S47} {t:S47} (h:∀t∈init,(t.f0 == -1)=false) (ht:(t.f0 == -1)=true):badOf (init++t :: rest)=some t:=by
 unfold badOf;rw[List.find?_append,show init.find? (fun t=>t.f0 == -1)=none from badOf_none h,List.find?_cons,ht];rfl
def zGi (s:ByteArray) (w:World) (e:Ending) (w':World):Prop :=
 match badOf (zA9 s) with
 | none=>∃v,e=.returned (.tuple #[v,.int .i64 0,.int .i64 0])∧zAP w' w.heap.size v (zA9 s)∧Below w.heap.size w w'
 | some t=>e=.returned (.tuple #[.slice none 0 0,.int .i64 t.f2,.int .i64 1])∧Below w.heap.size w w'
theorem results15 {tmps:Array Value} {W:World} {a b c:Addr} {u v x:Value} (h2:tmps.getD 2 undef=.pointer (some a)) (h3:tmps.getD 3 undef=.pointer (some b)) (h4:tmps.getD 4 undef=.pointer (some c))
  (ha:W.cell? a=some u) (hb:W.cell? b=some v) (hc:W.cell? c=some x):(results Tryz.f15 tmps).run Tryz.prog W=.ok (.tuple #[u,v,x]) W:=by
 have e2:tmps[2]?.getD undef=.pointer (some a):=by simpa using h2
 have e3:tmps[3]?.getD undef=.pointer (some b):=by simpa using h3
 have e4:tmps[4]?.getD undef=.pointer (some c):=by simpa using h4
 simp[results,Tryz.results15,e2,e3,e4,asAddr,go_sem,ha,hb,hc]
theorem Tokens_in (n:Nat) (s:ByteArray) (hs:s.size≤2000) (w:World):CallsIn Fence.wide n Tryz.prog 15 #[.string s] w (zGi s w):=by
 have hD:Fence.wide.depth.isSome=false:=rfl;have hF53:Fence.wide.fn 53:=trivial;have hbig:decide (2000<(s.size:Int))=false:=by rw[kBT];omega
 refine kCt Tryz.func15 rfl trivial ?_ rfl;simp only[Tryz.ntmps15,kAb,List.length_cons,List.length_nil,Nat.reduceAdd,Nat.reduceSub,kB2,Array.replicate_zero,kBk,kAR,List.nil_append,List.cons_append]
 gi_wp2_with (gi_at_call 53;refine (tokens_in (n-1) s _).mono ?_;rintro e w' ⟨rfl,rfl⟩)
 clear hbig;obtain⟨W,hW⟩:∃W,W=(((((w.alloc (.cells #[.slice none 0 0] 35)).alloc (.cells #[.int .i64 0] 3)).alloc (.cells #[.int .i64 0] 36)).alloc (.cells #[.slice none 0 0] 35)).alloc (.cells #[.string s] 9)):=⟨_,rfl⟩;have hz:W.heap.size=w.heap.size+5:=by rw[hW];simp
 have hbW:Below w.heap.size w W:=by rw[hW];exact (((((kA3 _ w).alloc (kA2 _) _).alloc kD6 _).alloc kD8 _).alloc kD8 _).alloc kD8 _
 have hR0:W.heap[w.heap.size]?=some (.cells #[.slice none 0 0] 35 (0,0)):=by
  rw[hW];refine (kA4 _ _ _ kDi).trans ?_;refine (kA4 _ _ _ kDi).trans ?_;refine (kA4 _ _ _ kDi).trans ?_;refine (kA4 _ _ _ kDi).trans ?_;exact zAD _ _ _ kD6
 have hR1:W.heap[w.heap.size+1]?=some (.cells #[.int .i64 0] 3 (0,0)):=by
  rw[hW];refine (kA4 _ _ _ kDi).trans ?_;refine (kA4 _ _ _ kDi).trans ?_;refine (kA4 _ _ _ kDi).trans ?_;exact zAD _ _ _ kD6
 have hR2:W.heap[w.heap.size+2]?=some (.cells #[.int .i64 0] 36 (0,0)):=by
  rw[hW];refine (kA4 _ _ _ kDi).trans ?_;refine (kA4 _ _ _ kDi).trans ?_;exact zAD _ _ _ kD6
 have hO:W.heap[w.heap.size+3]?=some (.cells #[.slice none 0 0] 35 (0,0)):=by
  rw[hW];refine (kA4 _ _ _ kDi).trans ?_;exact zAD _ _ _ kD6
 have hB:W.heap[w.heap.size+4]?=some (.cells #[.string s] 9 (0,0)):=by
  rw[hW];exact zAD _ _ _ kD6
 rw[← hW];clear hW;refine zDy (box:=⟨w.heap.size+4,0,none⟩) (s:=s)
  (fun t U=>#[Value.string s,undef,Value.pointer (some ⟨w.heap.size,0,none⟩),Value.pointer (some ⟨w.heap.size+1,0,none⟩),Value.pointer (some ⟨w.heap.size+1+1,0,none⟩),Value.pointer (some ⟨w.heap.size+1+1+1,0,none⟩),Value.pointer (some ⟨U,0,none⟩),Value.string s,
     Value.int IntKind.i64 s.size,Value.bool false,Value.string s,
     Value.func (Fn.func 87) #[] #[Value.pointer (some ⟨w.heap.size+1+1+1+1,0,none⟩)],tokV t,undef,undef,undef,undef,undef,undef,undef,undef,undef,undef])
  rfl kD4 (zA1 hB 0)
  (fun pre X=>∃v,zAP X (W.heap.size+3) v pre∧(∀t∈pre,(t.f0 == -1)=false)∧X.heap[w.heap.size+3]?=some (.cells #[v] 35 (0,0))∧X.heap[w.heap.size]?=some (.cells #[.slice none 0 0] 35 (0,0)) ∧
   X.heap[w.heap.size+1]?=some (.cells #[.int .i64 0] 3 (0,0))∧X.heap[w.heap.size+2]?=some (.cells #[.int .i64 0] 36 (0,0))∧Below w.heap.size w X)
  (fun pre X=>∃init t,pre=init++[t]∧(∀t∈init,(t.f0 == -1)=false)∧(t.f0 == -1)=true∧X.heap[w.heap.size]?=some (.cells #[.slice none 0 0] 35 (0,0)) ∧
   X.heap[w.heap.size+1]?=some (.cells #[.int .i64 t.f2] 3 (0,0))∧X.heap[w.heap.size+2]?=some (.cells #[.int .i64 1] 36 (0,0))∧Below w.heap.size w X)
  ?hI ?hIx ⟨_,kCl _ _ _ _,fun t ht=>(by simp at ht),hO,hR0,hR1,hR2,hbW⟩ ?assign ?body ?done ?stop
 case hI =>
  rintro pre A B k⟨v,ho,hn,hq,h0,h1,h2,hb⟩ hk hg;exact⟨v,ho.kept kD4 hg,hn,(hg.block _ (zA5 hq) kDa).trans hq,(hg.block _ (zA5 h0) kDa).trans h0,(hg.block _ (zA5 h1) kDa).trans h1,(hg.block _ (zA5 h2) kDa).trans h2,hb.grown hg hb.size (fun j e=>by injection e with e;omega)⟩
 case hIx =>
  rintro pre A B k⟨init,t,hp,hn,ht,h0,h1,h2,hb⟩ hk hg;exact⟨init,t,hp,hn,ht,(hg.block _ (zA5 h0) kDa).trans h0,(hg.block _ (zA5 h1) kDa).trans h1,(hg.block _ (zA5 h2) kDa).trans h2,hb.grown hg hb.size (fun j e=>by injection e with e;omega)⟩
 case assign =>
  intro l t A K hK;unfold tokV at hK⊢;unfold tokO at hK
  gi_wp2
  exact hK
 case body =>
  rintro pre t A W0⟨v,ho,hn,hq,h0,h1,h2,hb⟩ hrest hlt hg hz0;unfold tokV;have carry:∀{k:Nat} {o:Obj},A.heap[k]?=some o→k<w.heap.size+5→W0.heap[k]?=some o:=fun {k o} hk hlt5 =>
   (hg.block _ (by simp;have:=zA5 hk;omega) kDa).trans ((kA4 _ _ _ (by simp;have:=zA5 hk;omega)).trans ((kA4 _ _ _ (zA5 hk)).trans hk))
  have hq0:=carry hq kD4;have h00:=carry h0 kD4;have h10:=carry h1 kD4;have h20:=carry h2 kD4;have hU:W0.heap[A.heap.size+1]?=some (tokO t):=by
   have:=zA4 (A.alloc (tokO t)) (tokO t);rw[kAw] at this;exact (hg.block _ kD6 kDa).trans this
  have hbelow0:=((hb.alloc kD4 (tokO t)).alloc kD8 (tokO t)).grown hg kD8 (fun k e=>by injection e with e;omega);have u0:=zA1 hU 0;have u1:=zA1 hU 1;have u2:=zA1 hU 2;have HU:=kA1 hU;have Hn:=kA1 hn;have Hrest:=kA1 hrest;clear hU carry hn hrest
  cases ht:(t.f0 == -1)
  ·obtain⟨i0,hi,iz0,iz1,iz2⟩:=info_parts info47;have HO:(W0.alloc (tokO t)).ownsRow (W.heap.size+3) 47 3 v pre.length (flat pre) :=
    zAP.kept (k:=W.heap.size+1) (zAP.kept (k:=W.heap.size+1) ho kD4 (kA7 (zCo A (tokO t) (tokO t) _) hg)) kD4 (kAE _ _ _)
   have HN:(W0.alloc (tokO t)).heap[A.heap.size+2]?=some (.cells (tokC t).toArray 47 (0,0)):=by
    have:=zA4 W0 (tokO t);rw[hz0] at this;exact this
   have HC:∀j u,(tokC t)[j]?=some u→(W0.alloc (tokO t)).cell? ((⟨A.heap.size+2,0,none⟩:Addr).add j)=some u:=by simpa using kBL HN
   have hlen:pre.length≤s.size:=by
    obtain⟨rest,hrest⟩:=Hrest.out;have h1:=zCl (s.size+1) s 0;unfold zA9 at hrest;rw[hrest,kAt,List.length_cons] at h1;omega
   have hzc:(Value.agg #[.int .i64 0,.string ⟨#[]⟩,.int .i64 0]).cells.size=3:=rfl;have hone:∀u∈tokC t,u.oneCell'=true:=by simp[tokC,Value.oneCell']
   have hb1:pre.length+1≤maxLen:=kDn
   have hb2:(pre.length+1)*32≤140737488355328:=kD4
   have hb3:W.heap.size+3≤(W0.alloc (tokO t)).heap.size:=kDw
   have hqlt:∀k,k<w.heap.size+5→k<(W0.alloc (tokO t)).heap.size:=fun k hk=>by rw[kAw,hz0];omega
   have hne:∀k,(k<W.heap.size+3∨A.heap.size≤k)→some k≠v.ownBlock:=fun k hk e=>by have:=kBy ho _ e.symm;omega
   have carry1:∀{k:Nat} {o:Obj},W0.heap[k]?=some o→(W0.alloc (tokO t)).heap[k]?=some o:=fun {k o} hk=>(kA4 _ _ _ (zA5 hk)).trans hk
   have q0:W0.cell? ⟨w.heap.size+1+1+1,0,none⟩=some v:=zA1 hq0 0;have q1:W0.frozen? ⟨w.heap.size+1+1+1,0,none⟩=false:=zA2 hq0 0;have H1:=kA1 HO;have H2:=kA1 HC;have HL:=kA1 hqlt;have HNE:=kA1 hne;have K0:=kA1 (carry1 h00);have K1:=kA1 (carry1 h10);have K2:=kA1 (carry1 h20);have KQ:=kA1 (carry1 hq0);clear HO HC HN hqlt hne carry1 h00 h10 h20 h0 h1 h2 hq hq0
   gi_wp2_with (gi_at_builtin;refine kC4 _ rfl _ _ 35 rfl (W.heap.size+3) 47 i0 (.agg #[.int .i64 0,.string ⟨#[]⟩,.int .i64 0]) 3 32 Tryz.underlying35 hi iz0 iz1 iz2 hzc (kCq 2) v pre.length (flat pre) rfl H1.out ⟨A.heap.size+2,0,none⟩ 1 1 (tokC t) rfl rfl H2.out hone hb1 hb2 hb3 ?_;intro v' w1 hown' hgrow _;obtain⟨Av,cv,rfl⟩:=zC7 hown';have hq1:=(hgrow.block (w.heap.size+3) (HL.out _ kD4) (HNE.out _ (.inl kD4))).trans KQ.out;have c1:w1.cell? ⟨w.heap.size+1+1+1,0,none⟩=some v:=zA1 hq1 0;have c2:w1.frozen? ⟨w.heap.size+1+1+1,0,none⟩=false:=zA2 hq1 0;have HW:=kA1 hown';have KQ1:=kA1 hq1;clear hown' hq1)
   have far:∀{k:Nat} {o:Obj} {x:Value},(W0.alloc (tokO t)).heap[k]?=some o→k<w.heap.size+3→(w1.setCell ⟨w.heap.size+1+1+1,0,none⟩ x).heap[k]?=some o:=fun {k o x} hk hlt3 =>
    (kA5 _ _ _ _ kD8).trans ((hgrow.block _ (HL.out _ kD4) (HNE.out _ (.inl kD4))).trans hk)
   refine⟨?_,⟨.slice Av (pre.length+1) cv,?_,?_,?_,far K0.out kD4,far K1.out kD4,far K2.out kD4,?_⟩,?_,?_⟩
   ·exact ((kCE W0 (tokO t)).trans (kCc hgrow (fun j o hj ho=>by
     obtain⟨cells,hc⟩:=zDf H1.out j hj;rw[hc] at ho;cases ho;rfl))).trans (kBH _ _ _)
   ·exact zAP.kept (ts:=pre++[t]) (k:=w.heap.size+1+1+1) (by unfold zAP;rw[kAt,zG4];exact HW.out) kD4 (kAf _ _ _ _)
   ·intro x hx;rcases kC2.1 hx with hx | hx
    ·exact Hn.out x hx
    ·rw[kBt.1 hx];exact ht
   ·exact zA8 KQ1.out 0 _
   ·exact ((hbelow0.alloc kD4 (tokO t)).grown hgrow kD8 (fun k e=>by have:=(kBy H1.out k e).1;omega)).setCell (p:=⟨w.heap.size+1+1+1,0,none⟩) kD8 _
   ·exact (kA5 _ _ _ _ kD8).trans ((hgrow.block _ kDw (HNE.out _ (.inl kD4))).trans (kA4 _ _ _ kD4))
   ·exact (kA5 _ _ _ _ kD8).trans ((hgrow.block _ kDw (HNE.out _ (.inr (kA2 _)))).trans (kA4 _ _ _ kD4))
  ·have a0:=zA1 h00 0;have a1:=zA1 h10 0;have a2:W0.cell? ⟨w.heap.size+1+1,0,none⟩=some (.int .i64 0):=zA1 h20 0;have b0:=zA2 h00 0;have b1:=zA2 h10 0;have b2:W0.frozen? ⟨w.heap.size+1+1,0,none⟩=false:=zA2 h20 0;have K0:=kA1 h00;have K1:=kA1 h10;have K2:=kA1 h20;clear h00 h10 h20 h0 h1 h2 hq hq0
   gi_wp2
   gi_region
   all_goals gi_wp2
   all_goals
    refine⟨?_,pre,t,rfl,Hn.out,ht,?_,?_,?_,?_⟩
    ·exact⟨kD6,fun k o hk ho=>(((kBH W0 _ _).trans (kBH _ _ _)).trans (kBH _ _ _)).same k o hk ho⟩
    ·exact (kA5 _ _ _ _ kDd).trans ((kA5 _ _ _ _ kDd).trans (zA8 K0.out 0 _))
    ·exact (kA5 _ _ _ _ kDd).trans (zA8 ((kA5 _ _ _ _ kDd).trans K1.out) 0 _)
    ·exact zA8 ((kA5 _ _ _ _ kDd).trans ((kA5 _ _ _ _ kDd).trans K2.out)) 0 _
    ·exact ((((hbelow0.setCell (p:=⟨w.heap.size,0,none⟩) (kA2 _) _).setCell (p:=⟨w.heap.size+1,0,none⟩) kD6 _).setCell (p:=⟨w.heap.size+1+1,0,none⟩) kD8 _)).drew
 case done =>
  rintro X⟨v,ho,hn,hq,h0,h1,h2,hb⟩ hdef;obtain⟨Av,cv,rfl⟩:=zC7 ho;have q0:X.cell? ⟨w.heap.size+1+1+1,0,none⟩=some (.slice Av (zA9 s).length cv):=zA1 hq 0;have a0:=zA1 h0 0;have a1:=zA1 h1 0;have a2:X.cell? ⟨w.heap.size+1+1,0,none⟩=some (.int .i64 0):=zA1 h2 0;have b0:=zA2 h0 0;have b1:=zA2 h1 0;have b2:X.frozen? ⟨w.heap.size+1+1,0,none⟩=false:=zA2 h2 0;have K0:=kA1 h0;have K1:=kA1 h1;have K2:=kA1 h2;have Hn:=kA1 hn;clear h0 h1 h2 hq hn
  gi_wp2
  have hd:(((X.setCell ⟨w.heap.size,0,none⟩ (.slice Av (zA9 s).length cv)).setCell ⟨w.heap.size+1,0,none⟩ (.int .i64 0)).setCell ⟨w.heap.size+1+1,0,none⟩ (.int .i64 0)).heap[W.heap.size]?=some (.deferred (some [])) :=
   (kA5 _ _ _ _ kD8).trans ((kA5 _ _ _ _ kD8).trans ((kA5 _ _ _ _ kD8).trans hdef))
  have hbb:=((hb.setCell (p:=⟨w.heap.size,0,none⟩) (kA2 _) (.slice Av (zA9 s).length cv)).setCell (p:=⟨w.heap.size+1,0,none⟩) kD6 (.int .i64 0)).setCell (p:=⟨w.heap.size+1+1,0,none⟩) kD8 (.int .i64 0);have hoo:zAP (((X.setCell ⟨w.heap.size,0,none⟩ (.slice Av (zA9 s).length cv)).setCell ⟨w.heap.size+1,0,none⟩ (.int .i64 0)).setCell ⟨w.heap.size+1+1,0,none⟩ (.int .i64 0)) (W.heap.size+3) (.slice Av (zA9 s).length cv) (zA9 s) :=
   zAP.kept (k:=w.heap.size+1+1) (zAP.kept (k:=w.heap.size+1) (zAP.kept (k:=w.heap.size) ho kD4 (kAf _ _ _ _)) kD4 (kAf _ _ _ _)) kD4 (kAf _ _ _ _)
  have g0:=(kA5 ((X.setCell ⟨w.heap.size,0,none⟩ (.slice Av (zA9 s).length cv)).setCell ⟨w.heap.size+1,0,none⟩ (.int .i64 0)) ⟨w.heap.size+1+1,0,none⟩ (.int .i64 0) w.heap.size kDd).trans ((kA5 _ _ _ _ kDd).trans (zA8 K0.out 0 _));have g1:=(kA5 ((X.setCell ⟨w.heap.size,0,none⟩ (.slice Av (zA9 s).length cv)).setCell ⟨w.heap.size+1,0,none⟩ (.int .i64 0)) ⟨w.heap.size+1+1,0,none⟩ (.int .i64 0) (w.heap.size+1) kDd).trans (zA8 ((kA5 _ _ _ _ kDd).trans K1.out) 0 _);have g2:(((X.setCell ⟨w.heap.size,0,none⟩ (.slice Av (zA9 s).length cv)).setCell ⟨w.heap.size+1,0,none⟩ (.int .i64 0)).setCell ⟨w.heap.size+1+1,0,none⟩ (.int .i64 0)).heap[w.heap.size+2]?=_:=zA8 ((kA5 _ _ _ _ kDd).trans ((kA5 _ _ _ _ kDd).trans K2.out)) 0 _;generalize (((X.setCell ⟨w.heap.size,0,none⟩ (.slice Av (zA9 s).length cv)).setCell ⟨w.heap.size+1,0,none⟩ (.int .i64 0)).setCell ⟨w.heap.size+1+1,0,none⟩ (.int .i64 0))=X' at *;refine⟨kD6,.inl ⟨_,_,rfl,kC9 hd,?_⟩⟩;have j0:=zA1 ((kAq (w:=X') (o:=.deferred none) (r:=W.heap.size) kD4).trans g0) 0;have j1:=zA1 ((kAq (w:=X') (o:=.deferred none) (r:=W.heap.size) kD4).trans g1) 0;have j2:=zA1 ((kAq (w:=X') (o:=.deferred none) (r:=W.heap.size) kD4).trans g2) 0;refine⟨_,results15 rfl rfl rfl j0 j1 j2,?_⟩;unfold zGi;rw[badOf_none Hn.out];refine⟨_,rfl,?_,?_⟩
  ·exact zDU (zAP.kept (k:=W.heap.size) hoo kD4 (zAz _ _ _)) kD4
  ·exact hbb.grown (zAz _ _ _) (by have:=hbb.size;exact this) (fun k e=>by injection e with e;omega)
 case stop =>
  rintro pre rest X hpr⟨init,t,hp,hn,ht,h0,h1,h2,hb⟩ hdef;have Hpr:=kA1 hpr;have Hp:=kA1 hp;have Hn:=kA1 hn;have Ht:=kA1 ht;have K0:=kA1 h0;have K1:=kA1 h1;have K2:=kA1 h2;clear hpr hp hn ht h0 h1 h2
  gi_wp2
  refine⟨kD6,.inl ⟨_,_,rfl,kC9 hdef,?_⟩⟩;have j0:=zA1 ((kAq (w:=X) (o:=.deferred none) (r:=W.heap.size) kD4).trans K0.out) 0;have j1:=zA1 ((kAq (w:=X) (o:=.deferred none) (r:=W.heap.size) kD4).trans K1.out) 0;have j2:=zA1 ((kAq (w:=X) (o:=.deferred none) (r:=W.heap.size) kD4).trans K2.out) 0;refine⟨_,results15 rfl rfl rfl j0 j1 j2,?_⟩;unfold zGi;rw[Hpr.out,Hp.out,kBl,List.singleton_append,badOf_some Hn.out Ht.out];exact⟨rfl,hb.grown (zAz _ _ _) hb.size (fun k e=>by injection e with e;omega)⟩
theorem Tokens_calls (s:ByteArray) (hs:s.size≤2000) (w:World):Calls Tryz.prog 15 #[.string s] w (zGi s w):=kBp.1 (Tokens_in 9 s hs w)
theorem newQueue_calls (s:ByteArray) (hs:s.size≤2000) (w:World):Calls Tryz.prog 133 #[.string s] w fun e w' =>
  ∃v,e=.returned (.agg #[v,.int .i64 0,.int .i64 s.size])∧zAP w' w.heap.size v (zA9 s)∧Below w.heap.size w w':=kBp.1 (newQueue_in 9 s hs w)
end
def rdCells (v:Value) (now en R:Nat):Array Value:=#[v,.int .i64 now,.int .i64 en,.func (.func 134) #[] #[],.func (.func 135) #[.pointer (some ⟨R,0,none⟩)] #[]]
structure Rdr (w:World) (R:Nat) (ts:List S47) (now en:Nat):Prop where
 out:∃v base,w.heap[R]?=some (.cells (rdCells v now en R) 97 (0,0))∧zAP w base v ts
def tokP (ts:List S47) (en now:Nat):S47:=if h:now<ts.length then ts[now] else ⟨-1,⟨#[]⟩,en⟩
theorem Rdr.keep {w w':World} {R:Nat} {ts:List S47} {now en:Nat} (h:Rdr w R ts now en) (hb:Below w.heap.size w w'):Rdr w' R ts now en:=by
 obtain⟨v,base,h1,h2⟩:=h.out;exact⟨v,base,zAa hb h1,zC2 h2 hb⟩
theorem Rdr.lt {w:World} {R:Nat} {ts:List S47} {now en:Nat} (h:Rdr w R ts now en):R<w.heap.size:=by
 obtain⟨v,base,h1,h2⟩:=h.out;exact zA5 h1
theorem Rdr.set {w:World} {R:Nat} {ts:List S47} {now en:Nat} (h:Rdr w R ts now en) (now':Nat):Rdr (w.setCell ⟨R,1,none⟩ (.int .i64 now')) R ts now' en:=by
 obtain⟨v,base,h1,h2⟩:=h.out;exact⟨v,base,zA8 h1 1 _,zFQ h2 (own_ne h2 h1 kD7) _⟩
theorem zAP.cells {w:World} {base:Nat} {v:Value} {ts:List S47} (h:zAP w base v ts) {i:Nat} (hi:i<ts.length) :
  ∃g c,v=.slice (some ⟨g,0,none⟩) ts.length c∧w.cell? ⟨g,i*3,none⟩=some (.int .i64 ts[i].f0)∧w.cell? ⟨g,i*3+1,none⟩=some (.string ts[i].f1)∧w.cell? ⟨g,i*3+2,none⟩=some (.int .i64 ts[i].f2):=by
 have hfl:∀(l:List S47) (i:Nat) (hi:i<l.length),(flat l)[i*3]?=some (.int .i64 l[i].f0)∧(flat l)[i*3+1]?=some (.string l[i].f1)∧(flat l)[i*3+2]?=some (.int .i64 l[i].f2):=by
  intro l
  induction l with
  | nil=>intro i hi;simp at hi
  | cons t l ih =>
   intro i hi
   cases i with
   | zero=>exact⟨rfl,rfl,rfl⟩
   | succ i =>
    have:=ih i (by simpa using hi);have e:flat (t :: l)=tokC t++flat l:=by simp[flat]
    have hl:(tokC t).length=3:=rfl;rw[e];refine⟨?_,?_,?_⟩
    ·rw[kCn kD4,hl,show (i+1)*3-3=i*3 by omega];exact this.1
    ·rw[kCn kD4,hl,show (i+1)*3+1-3=i*3+1 by omega];exact this.2.1
    ·rw[kCn kD4,hl,show (i+1)*3+2-3=i*3+2 by omega];exact this.2.2
 rcases h.2 with⟨_,h0⟩ | ⟨g,cap,cur,rfl,hb,hg,_,_,_,ht⟩
 ·omega
 ·obtain⟨f0,f1,f2⟩:=hfl ts i hi;have hc:=kCu h (g:=g) rfl;have c0:=hc _ _ f0;have c1:=hc _ _ f1;have c2:=hc _ _ f2;rw[zBU] at c0 c1 c2;exact⟨g,cap,rfl,c0,c1,c2⟩
theorem zAg {P:Program} {fn:Func} {p:Tmp} {ty:TypeId} (h:fn.results=#[.cell p ty]) (tmps:Array Value) (w:World) (g:Nat) (t:TypeId) (cs:Array Value) (fr:Nat×Nat) (d:TypeDesc)
  (hp:tmps.getD p undef=.pointer (some ⟨g,0,none⟩)) (hg:w.heap[g]?=some (.cells cs t fr))
  (hu:P.underlying ty=some d) (hd:(match d with | .struct _ | .array _ _=>true | _=>false)=true) (hi:(P.info? ty).map (·.size)=some cs.size) :
  (results fn tmps).run P w=.ok (.agg cs) w:=by
 have hp':tmps[p]?.getD undef=.pointer (some ⟨g,0,none⟩):=by simpa using hp
 simp[results,h,hp',asAddr,kC1 w g t ty cs fr d hg hu hd hi]
theorem size47:(Tryz.prog.info? 47).map (·.size)=some 3:=kD5
theorem zB6:(Tryz.prog.info? 31).map (·.size)=some 6:=kD5
theorem fin3 {X:World} {R:Nat} {x0 x1 x2:Value} {t:TypeId} (v0 v1 v2:Value) (hR:X.heap[R]?=some (.cells #[x0,x1,x2] t (0,0))) :
  (((X.setCell ⟨R,0,none⟩ v0).setCell ⟨R,1,none⟩ v1).setCell ⟨R,2,none⟩ v2).heap[R]?=some (.cells #[v0,v1,v2] t (0,0)):=zA8 (zA8 (zA8 hR 0 v0) 1 v1) 2 v2
theorem below3 {B:Nat} {w X:World} {R:Nat} (h:Below B w X) (hB:B≤R) (v0 v1 v2:Value):Below B w (((X.setCell ⟨R,0,none⟩ v0).setCell ⟨R,1,none⟩ v1).setCell ⟨R,2,none⟩ v2) :=
 ((h.setCell (p:=⟨R,0,none⟩) hB _).setCell (p:=⟨R,1,none⟩) hB _).setCell (p:=⟨R,2,none⟩) hB _
theorem peek_some (R:Nat) (ts:List S47) (now en:Nat) (w:World) (h:Rdr w R ts now en) (hn:now<ts.length) :
  Calls Tryz.prog 136 #[.pointer (some ⟨R,0,none⟩)] w fun e w'=>e=.returned (tokV ts[now])∧Below w.heap.size w w':=by
 obtain⟨v,base,h1,h2⟩:=h.out;obtain⟨g,c,rfl,c0,c1,c2⟩:=h2.cells hn;have d0:w.cell? ⟨R,0,none⟩=some (.slice (some ⟨g,0,none⟩) ts.length c):=zA1 h1 0;have d1:w.cell? ⟨R,1,none⟩=some (.int .i64 now):=zA1 h1 1;have hRl:=zA5 h1;have hgl:=kAJ w _ c0;simp only at hgl;clear h h1 h2;have hne:((now:Int)==(ts.length:Int))=false:=by rw[kAd];omega
 have hlt:(now:Int)<(ts.length:Int):=kD4
 unfold tokV;generalize ts[now]=t at *;go_enter Tryz.func136,Tryz.ntmps136;go_wp2
 go_quiet (fail)
 generalize nq=n0 at *;go_wp2
 go_region
 all_goals
  go_wp2;refine kAi (zAg Tryz.results136 _ _ w.heap.size 47 #[.int .i64 t.f0,.string t.f1,.int .i64 t.f2] (0,0) _ rfl (fin3 (.int .i64 t.f0) (.string t.f1) (.int .i64 t.f2) (zAZ (zA4 w _) _)) Tryz.underlying47 rfl size47) rfl ⟨rfl,?_⟩;exact below3 (zA3 ((kA3 _ w).alloc (kA2 _) _) _) (kA2 _) _ _ _
theorem peek_none (R:Nat) (ts:List S47) (en:Nat) (w:World) (h:Rdr w R ts ts.length en) :
  Calls Tryz.prog 136 #[.pointer (some ⟨R,0,none⟩)] w fun e w'=>e=.returned (tokV ⟨-1,⟨#[]⟩,en⟩)∧Below w.heap.size w w':=by
 obtain⟨v,base,h1,h2⟩:=h.out;obtain⟨A,c,rfl⟩:=zC7 h2;have d0:w.cell? ⟨R,0,none⟩=some (.slice A ts.length c):=zA1 h1 0;have d1:w.cell? ⟨R,1,none⟩=some (.int .i64 ts.length):=zA1 h1 1;have d2:w.cell? ⟨R,2,none⟩=some (.int .i64 en):=zA1 h1 2;have hRl:=zA5 h1;clear h h1 h2;go_enter Tryz.func136,Tryz.ntmps136;go_wp2
 go_quiet (fail)
 generalize nq=n0 at *;go_wp2;refine kAi (zAg Tryz.results136 _ _ w.heap.size 47 #[.int .i64 (-1),.string ⟨#[]⟩,.int .i64 en] (0,0) _ rfl (fin3 (.int .i64 (-1)) (.string ⟨#[]⟩) (.int .i64 en) (zAZ (zA4 w _) _)) Tryz.underlying47 rfl size47) rfl ⟨rfl,?_⟩;exact below3 (zA3 ((kA3 _ w).alloc (kA2 _) _) _) (kA2 _) _ _ _
theorem zB7 (R:Nat) (ts:List S47) (now en:Nat) (w:World) (h:Rdr w R ts now en) (hn:now≤ts.length) :
  Calls Tryz.prog 136 #[.pointer (some ⟨R,0,none⟩)] w fun e w'=>e=.returned (tokV (tokP ts en now))∧Below w.heap.size w w':=by
 unfold tokP;by_cases hlt:now<ts.length
 ·rw[kCs hlt];exact peek_some R ts now en w h hlt
 ·rw[dif_neg hlt];obtain rfl:now=ts.length:=kD4
  exact peek_none R ts en w h
def zG1 (t:S47) (x:ByteArray):Bool:=(t.f0==4||t.f0==1)&&t.f1.toList==x.toList
theorem is_any (R:Nat) (ts:List S47) (now en:Nat) (x:ByteArray) (w:World) (h:Rdr w R ts now en) (hn:now≤ts.length) :
  Calls Tryz.prog 178 #[.pointer (some ⟨R,0,none⟩),.string x] w fun e w'=>e=.returned (.bool (zG1 (tokP ts en now) x))∧Below w.heap.size w w':=by
 have hp:=zB7 R ts now en w h hn;unfold tokV at hp;generalize tokP ts en now=t at *;obtain⟨r,hr⟩:∃r,r=zG1 t x:=⟨_,rfl⟩;rw[← hr];have Hr:=kA1 hr;clear h hr;go_enter Tryz.func178,Tryz.ntmps178;go_wp2_with (go_at_call 136;refine hp.mono ?_;rintro e w1 ⟨rfl,hb1⟩)
 all_goals
  go_ret;refine⟨?_,(hb1.alloc hb1.size _)⟩;rw[Hr.out]
  simp_all [zG1]
theorem field47_2 (a c:Int) (b:ByteArray) (w:World):(Instr.field 47 (.agg #[.int .i64 a,.string b,.int .i64 c]) 2).run Tryz.prog w=.ok (.int .i64 c) w:=kD5
theorem zBR (a c:Int) (b:ByteArray) (w:World):(Instr.field 47 (.agg #[.int .i64 a,.string b,.int .i64 c]) 0).run Tryz.prog w=.ok (.int .i64 a) w:=kD5
def zAm (n:Int):Ending:=.panicked [{ v:=.iface 137 (.agg #[.int .i64 n]),recovered:=false }]
theorem zDK (R:Nat) (w:World):Calls Tryz.prog 93 #[.pointer (some ⟨R,0,none⟩),.bool true] w fun e w'=>e=.returned (.tuple #[])∧w'=w:=by
 go_enter Tryz.func93,Tryz.ntmps93;go_wp2;exact kBf (kB4 rfl _ _ _) rfl ⟨rfl,rfl⟩
theorem zC4 (R:Nat) (ts:List S47) (now en:Nat) (w:World) (h:Rdr w R ts now en) (hn:now≤ts.length) :
  Calls Tryz.prog 93 #[.pointer (some ⟨R,0,none⟩),.bool false] w fun e w'=>e=zAm (tokP ts en now).f2∧Below w.heap.size w w':=by
 have hp:=zB7 R ts now en w h hn;unfold tokV at hp;generalize tokP ts en now=t at *;clear h;have hfd:=field47_2 t.f0 t.f2 t.f1;go_enter Tryz.func93,Tryz.ntmps93;go_wp2_with (go_at_call 136;refine hp.mono ?_;rintro e w1 ⟨rfl,hb1⟩);exact⟨rfl,rfl,hb1⟩
theorem zAv {ts:List S47} {en now:Nat} {x:ByteArray} (h:zG1 (tokP ts en now) x=true):now<ts.length:=by
 unfold tokP at h;by_cases hlt:now<ts.length
 ·exact hlt
 ·rw[dif_neg hlt] at h;simp[zG1] at h
structure Took (w:World) (R:Nat) (ts:List S47) (now' en:Nat) (w':World):Prop where
 grown:w.grownBy w' (some R)
 rdr:Rdr w' R ts now' en
theorem Took.refl {w:World} {R:Nat} {ts:List S47} {now en:Nat} (h:Rdr w R ts now en):Took w R ts now en w:=⟨kAS _ _,h⟩
theorem Took.trans {w w1 w2:World} {R:Nat} {ts:List S47} {n1 n2 en:Nat} (h:Took w R ts n1 en w1) (k:Took w1 R ts n2 en w2):Took w R ts n2 en w2:=⟨kA7 h.grown k.grown,k.rdr⟩
theorem Took.below {w w1 w2:World} {R:Nat} {ts:List S47} {n1 en:Nat} (h:Took w R ts n1 en w1) (hb:Below w1.heap.size w1 w2):Took w R ts n1 en w2:=⟨kAk h.grown hb,h.rdr.keep hb⟩
theorem Took.next {w w1:World} {R:Nat} {ts:List S47} {now en:Nat} (h:Rdr w R ts now en) (hb:Below w.heap.size w w1):Took w R ts (now+1) en (w1.setCell ⟨R,1,none⟩ (.int .i64 ((now:Int)+1))):=by
 have:=(h.keep hb).set (now+1);rw[show (((now+1:Nat)):Int)=(now:Int)+1 by omega] at this;exact⟨kA7 (kAk (kAS _ _) hb) (kAf _ _ _ _),this⟩
theorem Rdr.cells {w:World} {R:Nat} {ts:List S47} {now en:Nat} (h:Rdr w R ts now en) :
  w.cell? ⟨R,1,none⟩=some (.int .i64 now)∧w.frozen? ⟨R,1,none⟩=false∧w.cell? ⟨R,3,none⟩=some (.func (.func 134) #[] #[])∧w.cell? ⟨R,4,none⟩=some (.func (.func 135) #[.pointer (some ⟨R,0,none⟩)] #[])∧R<w.heap.size:=by
 obtain⟨v,base,h1,h2⟩:=h.out;exact⟨zA1 h1 1,zA2 h1 1,zA1 h1 3,zA1 h1 4,zA5 h1⟩
theorem is_val (R:Nat) (ts:List S47) (now en:Nat) (x:ByteArray) (r:Bool) (w:World) (h:Rdr w R ts now en) (hn:now≤ts.length) (hr:zG1 (tokP ts en now) x=r) :
  Calls Tryz.prog 178 #[.pointer (some ⟨R,0,none⟩),.string x] w fun e w'=>e=.returned (.bool r)∧Below w.heap.size w w':=by
 rw[← hr];exact is_any R ts now en x w h hn
theorem zBW (R:Nat) (ts:List S47) (now en:Nat) (x:ByteArray) (w:World) (h:Rdr w R ts now en) (hl:ts.length≤100000) (hr:zG1 (tokP ts en now) x=true) :
  Calls Tryz.prog 158 #[.pointer (some ⟨R,0,none⟩),.string x] w fun e w'=>e=.returned (.tuple #[])∧Took w R ts (now+1) en w':=by
 have hlt:=zAv hr;have hp:=is_val R ts now en x true w h kD4 hr;have Hr:=kA1 hr;have H:=kA1 h;clear hr h;go_enter Tryz.func158,Tryz.ntmps158;go_wp2_with (first
  | (go_at_call 178;refine hp.mono ?_;rintro e w1 ⟨rfl,hb1⟩)
  | (go_at_call 93;refine (zDK R _).mono ?_;rintro e w2 ⟨rfl,rfl⟩;obtain⟨c1,f1,c3,c4,lt⟩:=(H.out.keep hb1).cells))
 exact kBf (kB4 rfl _ _ _) rfl ⟨rfl,Took.next H.out hb1⟩
theorem zCt (R:Nat) (ts:List S47) (now en:Nat) (x:ByteArray) (w:World) (h:Rdr w R ts now en) (hn:now≤ts.length) (hr:zG1 (tokP ts en now) x=false) :
  Calls Tryz.prog 158 #[.pointer (some ⟨R,0,none⟩),.string x] w fun e w'=>e=zAm (tokP ts en now).f2∧Below w.heap.size w w':=by
 have hp:=is_val R ts now en x false w h hn hr;have H:=kA1 h;clear hr h;generalize hat:(tokP ts en now).f2=at_;have Hat:=kA1 hat;clear hat;go_enter Tryz.func158,Tryz.ntmps158;go_wp2_with (first
  | (go_at_call 178;refine hp.mono ?_;rintro e w1 ⟨rfl,hb1⟩)
  | (go_at_call 93;refine (zC4 R ts now en _ (H.out.keep hb1) hn).mono ?_;rintro e w2 ⟨rfl,hb2⟩;rw[Hat.out];unfold zAm))
 exact⟨rfl,rfl,hb1.trans (hb2.mono hb1.size)⟩
theorem zAE (R:Nat) (ts:List S47) (now en:Nat) (x:ByteArray) (w:World) (h:Rdr w R ts now en) (hl:ts.length≤100000) (hr:zG1 (tokP ts en now) x=true) :
  Calls Tryz.prog 156 #[.pointer (some ⟨R,0,none⟩),.string x] w fun e w'=>e=.returned (.bool true)∧Took w R ts (now+1) en w':=by
 have hlt:=zAv hr;have hp:=is_val R ts now en x true w h kD4 hr;have H:=kA1 h;clear hr h;go_enter Tryz.func156,Tryz.ntmps156;go_wp2_with (go_at_call 178;refine hp.mono ?_;rintro e w1 ⟨rfl,hb1⟩;obtain⟨c1,f1,c3,c4,lt⟩:=(H.out.keep hb1).cells);go_ret;exact⟨rfl,Took.next H.out hb1⟩
theorem zAT (R:Nat) (ts:List S47) (now en:Nat) (x:ByteArray) (w:World) (h:Rdr w R ts now en) (hn:now≤ts.length) (hr:zG1 (tokP ts en now) x=false) :
  Calls Tryz.prog 156 #[.pointer (some ⟨R,0,none⟩),.string x] w fun e w'=>e=.returned (.bool false)∧Took w R ts now en w':=by
 have hp:=is_val R ts now en x false w h hn hr;have H:=kA1 h;clear hr h;go_enter Tryz.func156,Tryz.ntmps156;go_wp2_with (go_at_call 178;refine hp.mono ?_;rintro e w1 ⟨rfl,hb1⟩);go_ret;exact⟨rfl,(Took.refl H.out).below hb1⟩
theorem zCC (R:Nat) (ts:List S47) (now en:Nat) (k:Int) (w:World) (h:Rdr w R ts now en) (hlt:now<ts.length) (hl:ts.length≤100000) (hr:((tokP ts en now).f0==k)=true) :
  Calls Tryz.prog 157 #[.pointer (some ⟨R,0,none⟩),.int .i64 k] w fun e w'=>e=.returned (.string (tokP ts en now).f1)∧Took w R ts (now+1) en w':=by
 have hp:=zB7 R ts now en w h kD4;unfold tokV at hp;generalize tokP ts en now=t at *;have H:=kA1 h;clear h;go_enter Tryz.func157,Tryz.ntmps157;go_wp2_with (first
  | (go_at_call 136;refine hp.mono ?_;rintro e w1 ⟨rfl,hb1⟩;have hn1:=zA4 w1 (tokO t);have hb2:=hb1.alloc hb1.size (tokO t))
  | (go_at_call 93;refine (zDK R _).mono ?_;rintro e w2 ⟨rfl,rfl⟩;obtain⟨c1,f1,c3,c4,lt⟩:=(H.out.keep hb1).cells))
 go_ret;exact⟨rfl,(Took.next H.out hb1).below ((kA3 _ _).alloc (kA2 _) _)⟩
theorem kind_no (R:Nat) (ts:List S47) (now en:Nat) (k:Int) (w:World) (h:Rdr w R ts now en) (hn:now≤ts.length) (hr:((tokP ts en now).f0==k)=false) :
  Calls Tryz.prog 157 #[.pointer (some ⟨R,0,none⟩),.int .i64 k] w fun e w'=>e=zAm (tokP ts en now).f2∧Below w.heap.size w w':=by
 have hp:=zB7 R ts now en w h hn;have hm:=fun w' (hb:Below w.heap.size w w')=>zC4 R ts now en w' (h.keep hb) hn
 unfold tokV at hp;unfold zAm at hm;generalize tokP ts en now=t at *;have Hm:=kA1 hm;clear h hm;unfold zAm;go_enter Tryz.func157,Tryz.ntmps157;go_wp2_with (first
  | (go_at_call 136;refine hp.mono ?_;rintro e w1 ⟨rfl,hb1⟩;have hb2:=hb1.alloc hb1.size (tokO t))
  | (go_at_call 93;refine (Hm.out _ hb2).mono ?_;rintro e w2 ⟨rfl,hb3⟩))
 exact⟨rfl,rfl,hb2.trans (hb3.mono hb2.size)⟩
def wrongOf (e:Int):Ending:=.panicked [{ v:=.iface 159 (.agg #[.int .i64 e]),recovered:=false }]
theorem zAs (e:Int) (w:World):Calls Tryz.prog 67 #[.bool false,.int .i64 e] w fun en w'=>en=.returned (.tuple #[])∧w'=w:=by
 go_enter Tryz.func67,Tryz.ntmps67;go_wp2;exact kBf (kB4 rfl _ _ _) rfl ⟨rfl,rfl⟩
theorem fail_yes (e:Int) (w:World):Calls Tryz.prog 67 #[.bool true,.int .i64 e] w fun en w'=>en=wrongOf e∧w'=w:=by
 unfold wrongOf;go_enter Tryz.func67,Tryz.ntmps67;go_wp2;exact⟨rfl,rfl,rfl⟩
def zBb (op:Int):Int:=if op=0∨op=1 then 0 else if op=2∨op=7∨op=10∨op=11 then 1 else if op=12 then 4 else if op=8 then 1 else if op=14 then 0 else 2
def zBd (op:Int):Int:=if op=0∨op=1 then 0 else if op=2∨op=7∨op=10∨op=11 then 1 else if op=12 then 4 else if op=8∨op=14 then 8 else 2
def zAK (op:Int):Int:=if op=7 then -9 else if op=10∨op=11 then 1 else 0
def zAL (op:Int):Int:=if op=7 then 9 else if op=10∨op=11 then 99 else 0
theorem zEW:(Tryz.prog.info? 198).map (·.size)=some 2:=kD5
theorem zAF {a b:Int} (h:a≠b):(a==b)=false:=kAd.2 h
theorem zBo (op:Int) (w:World):Calls Tryz.prog 142 #[.int .i64 op] w fun e w'=>e=.returned (.agg #[.int .i64 (zAK op),.int .i64 (zAL op)])∧Below w.heap.size w w':=by
 by_cases h7:op=7
 ·subst h7;go_enter Tryz.func142,Tryz.ntmps142;go_wp2;exact kAi (zAg Tryz.results142 _ _ w.heap.size 198 _ (0,0) _ rfl (zA4 w _) Tryz.underlying198 rfl zEW) rfl ⟨rfl,(kA3 _ w).alloc (kA2 _) _⟩
 by_cases h10:op=10
 ·subst h10;go_enter Tryz.func142,Tryz.ntmps142;go_wp2;exact kAi (zAg Tryz.results142 _ _ w.heap.size 198 _ (0,0) _ rfl (zA4 w _) Tryz.underlying198 rfl zEW) rfl ⟨rfl,(kA3 _ w).alloc (kA2 _) _⟩
 by_cases h11:op=11
 ·subst h11;go_enter Tryz.func142,Tryz.ntmps142;go_wp2;exact kAi (zAg Tryz.results142 _ _ w.heap.size 198 _ (0,0) _ rfl (zA4 w _) Tryz.underlying198 rfl zEW) rfl ⟨rfl,(kA3 _ w).alloc (kA2 _) _⟩
 have e:zAK op=0∧zAL op=0:=by unfold zAK zAL;simp[h7,h10,h11]
 rw[e.1,e.2];have h7':=zAF h7;have h10':=zAF h10;have h11':=zAF h11;clear e h7 h10 h11;go_enter Tryz.func142,Tryz.ntmps142;go_wp2;exact kAi (zAg Tryz.results142 _ _ w.heap.size 198 _ (0,0) _ rfl (zA4 w _) Tryz.underlying198 rfl zEW) rfl ⟨rfl,(kA3 _ w).alloc (kA2 _) _⟩
theorem zAJ (op:Int) (w:World):Calls Tryz.prog 140 #[.int .i64 op] w fun e w'=>e=.returned (.agg #[.int .i64 (zBb op),.int .i64 (zBd op)])∧Below w.heap.size w w':=by
 by_cases h:op=0∨op=1∨op=2∨op=7∨op=8∨op=10∨op=11∨op=12∨op=14
 ·rcases h with rfl | rfl | rfl | rfl | rfl | rfl | rfl | rfl | rfl
  all_goals
   go_enter Tryz.func140,Tryz.ntmps140;go_wp2;exact kAi (zAg Tryz.results140 _ _ w.heap.size 198 _ (0,0) _ rfl ((kA4 _ _ _ kD6).trans (zA4 w _)) Tryz.underlying198 rfl zEW) rfl ⟨rfl,((kA3 _ w).alloc (kA2 _) _).alloc kD6 _⟩
 ·have e:zBb op=2∧zBd op=2:=by unfold zBb zBd;constructor<;>(repeat' split)<;>omega
  rw[e.1,e.2];have h0:=zAF (a:=op) (b:=0) kD4;have h1:=zAF (a:=op) (b:=1) kD4;have h2:=zAF (a:=op) (b:=2) kD4;have h7:=zAF (a:=op) (b:=7) kD4;have h8:=zAF (a:=op) (b:=8) kD4;have h10:=zAF (a:=op) (b:=10) kD4;have h11:=zAF (a:=op) (b:=11) kD4;have h12:=zAF (a:=op) (b:=12) kD4;have h14:=zAF (a:=op) (b:=14) kD4;clear e h;go_enter Tryz.func140,Tryz.ntmps140;go_wp2;exact kAi (zAg Tryz.results140 _ _ w.heap.size 198 _ (0,0) _ rfl ((kA4 _ _ _ kD6).trans (zA4 w _)) Tryz.underlying198 rfl zEW) rfl ⟨rfl,((kA3 _ w).alloc (kA2 _) _).alloc kD6 _⟩
end Go.Proofs.YtjaobihcdkjmbaaGreatDoor
end
section
namespace Go.Proofs.YtjaobihcdkjmbaaGreatDoor.PReadTokens
open Go.RowKit Go.Proofs.YtjaobihcdkjmbaaGreatDoorW.PrintWords Go.Proofs.YtjaobihcdkjmbaaGreatDoorW.PrintLast Go.Proofs.YtjaobihcdkjmbaaGreatDoorW.PrintMore
section
attribute [local go_sem] zE1 zDZ zF2 zF1 zDj zDi zE0 zDY   -- for this text's walks alone
set_option linter.unusedVariables false
set_option linter.unusedSimpArgs false
def strings_HasPrefix.f (a0:ByteArray) (a1:ByteArray):Option (Bool):=(stringslite_HasPrefix.f a0 a1).bind fun t155=>(some t155)
theorem strings_HasPrefix.calls (a0:ByteArray) (a1:ByteArray) (r:Bool) (w:World) (h:strings_HasPrefix.f a0 a1=some r) :
  Calls Tryz.prog 227 #[.string a0,.string a1] w fun e w'=>e=.returned (.bool r)∧Drawn0 w w':=by
 have H:((stringslite_HasPrefix.f a0 a1).bind fun t155=>(some t155))=some r:=h;clear h;replace H:=Option.bind_eq_some_iff.mp H;obtain⟨t155,A30,H⟩:=H;replace H:(some t155)=some r:=H;have A3:=Aside0.mk A30;clear A30;obtain rfl:=kAg H;go_enter Tryz.func227,Tryz.ntmps227;go_wp2_with (first | ((with_reducible refine zAi (f:=177) rfl ?_);refine zB4 (some 7) rfl rfl Tryz.func177 kD5 rfl #[.string a0,.string a1] rfl kDe ?_;(with_reducible refine (stringslite_HasPrefix.calls a0 a1 t155 _ A3.out).mono ?_);rintro e w' ⟨rfl,⟨nd,rfl⟩⟩;refine⟨_,rfl,?_⟩));go_ret;exact⟨kDh,by repeat (first | exact Drawn0.refl _ | apply Drawn0.step)⟩
def cmp_isNaN_int.f (a0:Int):Option (Bool):=some (a0 != a0)
theorem cmp_isNaN_int.calls (a0:Int) (r:Bool) (w:World) (h:cmp_isNaN_int.f a0=some r) :
  Calls Tryz.prog 283 #[.int .i64 a0] w fun e w'=>e=.returned (.bool r)∧Drawn0 w w':=by
 have H:(some (a0 != a0))=some r:=h;clear h;obtain rfl:=kAg H;go_enter Tryz.func283,Tryz.ntmps283;go_wp2;go_ret;exact⟨kDh,by repeat (first | exact Drawn0.refl _ | apply Drawn0.step)⟩
def cmp_Compare_int.f (a0:Int) (a1:Int):Option (Int):=(cmp_isNaN_int.f a0).bind fun t164=>((cmp_isNaN_int.f a1).bind fun t165=>(if t164=true then (if t165=true then (some 0) else (some (-1))) else (if t165=true then (some 1) else (if a0<a1 then (some (-1)) else (if a0 > a1 then (some 1) else (some 0))))))
theorem cmp_Compare_int.calls (a0:Int) (a1:Int) (r:Int) (w:World) (h:cmp_Compare_int.f a0 a1=some r) :
  Calls Tryz.prog 263 #[.int .i64 a0,.int .i64 a1] w fun e w'=>e=.returned (.int .i64 r)∧Drawn0 w w':=by
 have H:((cmp_isNaN_int.f a0).bind fun t164=>((cmp_isNaN_int.f a1).bind fun t165=>(if t164=true then (if t165=true then (some 0) else (some (-1))) else (if t165=true then (some 1) else (if a0<a1 then (some (-1)) else (if a0 > a1 then (some 1) else (some 0)))))))=some r:=h;clear h;replace H:=Option.bind_eq_some_iff.mp H;obtain⟨t164,A30,H⟩:=H;replace H:((cmp_isNaN_int.f a1).bind fun t165=>(if t164=true then (if t165=true then (some 0) else (some (-1))) else (if t165=true then (some 1) else (if a0<a1 then (some (-1)) else (if a0 > a1 then (some 1) else (some 0))))))=some r:=H;have A3:=Aside0.mk A30;clear A30;replace H:=Option.bind_eq_some_iff.mp H;obtain⟨t165,A40,H⟩:=H;replace H:(if t164=true then (if t165=true then (some 0) else (some (-1))) else (if t165=true then (some 1) else (if a0<a1 then (some (-1)) else (if a0 > a1 then (some 1) else (some 0)))))=some r:=H;have A4:=Aside0.mk A40;clear A40;by_cases c5:t164=true
 ·subst c5;have H1:(if t165=true then (some 0) else (some (-1)))=some r:=by rw[kAa rfl] at H;exact H
  clear H;have H:=H1;clear H1;by_cases c6:t165=true
  ·subst c6;have H1:(some 0)=some r:=by rw[kAa rfl] at H;exact H
   clear H;have H:=H1;clear H1;obtain rfl:=kAg H;go_enter Tryz.func263,Tryz.ntmps263;go_wp2_with (first | ((with_reducible refine zAi (f:=283) rfl ?_);refine zB4 (some 8) rfl rfl Tryz.func283 kD5 rfl #[.int .i64 a0] rfl kDe ?_;(with_reducible refine (cmp_isNaN_int.calls a0 true _ A3.out).mono ?_);rintro e w' ⟨rfl,⟨nd,rfl⟩⟩;refine⟨_,rfl,?_⟩) | ((with_reducible refine zAi (f:=283) rfl ?_);refine zB4 (some 10) rfl rfl Tryz.func283 kD5 rfl #[.int .i64 a1] rfl kDe ?_;(with_reducible refine (cmp_isNaN_int.calls a1 true _ A4.out).mono ?_);rintro e w' ⟨rfl,⟨nd,rfl⟩⟩;refine⟨_,rfl,?_⟩));go_ret;exact⟨kDh,by repeat (first | exact Drawn0.refl _ | apply Drawn0.step)⟩
  ·replace c6:=Bool.eq_false_iff.mpr c6;subst c6;have H1:(some (-1))=some r:=by rw[kA9 (show ¬(false=true) by decide)] at H;exact H
   clear H;have H:=H1;clear H1;obtain rfl:=kAg H;go_enter Tryz.func263,Tryz.ntmps263;go_wp2_with (first | ((with_reducible refine zAi (f:=283) rfl ?_);refine zB4 (some 8) rfl rfl Tryz.func283 kD5 rfl #[.int .i64 a0] rfl kDe ?_;(with_reducible refine (cmp_isNaN_int.calls a0 true _ A3.out).mono ?_);rintro e w' ⟨rfl,⟨nd,rfl⟩⟩;refine⟨_,rfl,?_⟩) | ((with_reducible refine zAi (f:=283) rfl ?_);refine zB4 (some 10) rfl rfl Tryz.func283 kD5 rfl #[.int .i64 a1] rfl kDe ?_;(with_reducible refine (cmp_isNaN_int.calls a1 false _ A4.out).mono ?_);rintro e w' ⟨rfl,⟨nd,rfl⟩⟩;refine⟨_,rfl,?_⟩));go_ret;exact⟨kDh,by repeat (first | exact Drawn0.refl _ | apply Drawn0.step)⟩
 ·replace c5:=Bool.eq_false_iff.mpr c5;subst c5;have H1:(if t165=true then (some 1) else (if a0<a1 then (some (-1)) else (if a0 > a1 then (some 1) else (some 0))))=some r:=by rw[kA9 (show ¬(false=true) by decide)] at H;exact H
  clear H;have H:=H1;clear H1;by_cases c7:t165=true
  ·subst c7;have H1:(some 1)=some r:=by rw[kAa rfl] at H;exact H
   clear H;have H:=H1;clear H1;obtain rfl:=kAg H;go_enter Tryz.func263,Tryz.ntmps263;go_wp2_with (first | ((with_reducible refine zAi (f:=283) rfl ?_);refine zB4 (some 8) rfl rfl Tryz.func283 kD5 rfl #[.int .i64 a0] rfl kDe ?_;(with_reducible refine (cmp_isNaN_int.calls a0 false _ A3.out).mono ?_);rintro e w' ⟨rfl,⟨nd,rfl⟩⟩;refine⟨_,rfl,?_⟩) | ((with_reducible refine zAi (f:=283) rfl ?_);refine zB4 (some 10) rfl rfl Tryz.func283 kD5 rfl #[.int .i64 a1] rfl kDe ?_;(with_reducible refine (cmp_isNaN_int.calls a1 true _ A4.out).mono ?_);rintro e w' ⟨rfl,⟨nd,rfl⟩⟩;refine⟨_,rfl,?_⟩));go_ret;exact⟨kDh,by repeat (first | exact Drawn0.refl _ | apply Drawn0.step)⟩
  ·replace c7:=Bool.eq_false_iff.mpr c7;subst c7;have H1:(if a0<a1 then (some (-1)) else (if a0 > a1 then (some 1) else (some 0)))=some r:=by rw[kA9 (show ¬(false=true) by decide)] at H;exact H
   clear H;have H:=H1;clear H1;by_cases c8:a0<a1
   ·rw[kAa c8] at H;have c8b0:decide (a0<a1)=true:=kA8 c8;clear c8;obtain rfl:=kAg H;go_enter Tryz.func263,Tryz.ntmps263;go_wp2_with (first | ((with_reducible refine zAi (f:=283) rfl ?_);refine zB4 (some 8) rfl rfl Tryz.func283 kD5 rfl #[.int .i64 a0] rfl kDe ?_;(with_reducible refine (cmp_isNaN_int.calls a0 false _ A3.out).mono ?_);rintro e w' ⟨rfl,⟨nd,rfl⟩⟩;refine⟨_,rfl,?_⟩) | ((with_reducible refine zAi (f:=283) rfl ?_);refine zB4 (some 10) rfl rfl Tryz.func283 kD5 rfl #[.int .i64 a1] rfl kDe ?_;(with_reducible refine (cmp_isNaN_int.calls a1 false _ A4.out).mono ?_);rintro e w' ⟨rfl,⟨nd,rfl⟩⟩;refine⟨_,rfl,?_⟩));go_ret;exact⟨kDh,by repeat (first | exact Drawn0.refl _ | apply Drawn0.step)⟩
   ·rw[kA9 c8] at H;have c8b0:decide (a0<a1)=false:=kAc c8;clear c8;by_cases c9:a0 > a1
    ·rw[kAa c9] at H;have c9b0:decide (a1<a0)=true:=kA8 c9;clear c9;obtain rfl:=kAg H;go_enter Tryz.func263,Tryz.ntmps263;go_wp2_with (first | ((with_reducible refine zAi (f:=283) rfl ?_);refine zB4 (some 8) rfl rfl Tryz.func283 kD5 rfl #[.int .i64 a0] rfl kDe ?_;(with_reducible refine (cmp_isNaN_int.calls a0 false _ A3.out).mono ?_);rintro e w' ⟨rfl,⟨nd,rfl⟩⟩;refine⟨_,rfl,?_⟩) | ((with_reducible refine zAi (f:=283) rfl ?_);refine zB4 (some 10) rfl rfl Tryz.func283 kD5 rfl #[.int .i64 a1] rfl kDe ?_;(with_reducible refine (cmp_isNaN_int.calls a1 false _ A4.out).mono ?_);rintro e w' ⟨rfl,⟨nd,rfl⟩⟩;refine⟨_,rfl,?_⟩));go_ret;exact⟨kDh,by repeat (first | exact Drawn0.refl _ | apply Drawn0.step)⟩
    ·rw[kA9 c9] at H;have c9b0:decide (a1<a0)=false:=kAc c9;clear c9;obtain rfl:=kAg H;go_enter Tryz.func263,Tryz.ntmps263;go_wp2_with (first | ((with_reducible refine zAi (f:=283) rfl ?_);refine zB4 (some 8) rfl rfl Tryz.func283 kD5 rfl #[.int .i64 a0] rfl kDe ?_;(with_reducible refine (cmp_isNaN_int.calls a0 false _ A3.out).mono ?_);rintro e w' ⟨rfl,⟨nd,rfl⟩⟩;refine⟨_,rfl,?_⟩) | ((with_reducible refine zAi (f:=283) rfl ?_);refine zB4 (some 10) rfl rfl Tryz.func283 kD5 rfl #[.int .i64 a1] rfl kDe ?_;(with_reducible refine (cmp_isNaN_int.calls a1 false _ A4.out).mono ?_);rintro e w' ⟨rfl,⟨nd,rfl⟩⟩;refine⟨_,rfl,?_⟩));go_ret;exact⟨kDh,by repeat (first | exact Drawn0.refl _ | apply Drawn0.step)⟩
def cmp_isNaN_uint32.f (a0:Int):Option (Bool):=some (a0 != a0)
theorem cmp_isNaN_uint32.calls (a0:Int) (r:Bool) (w:World) (h:cmp_isNaN_uint32.f a0=some r) :
  Calls Tryz.prog 284 #[.int .u32 a0] w fun e w'=>e=.returned (.bool r)∧Drawn0 w w':=by
 have H:(some (a0 != a0))=some r:=h;clear h;obtain rfl:=kAg H;go_enter Tryz.func284,Tryz.ntmps284;go_wp2;go_ret;exact⟨kDh,by repeat (first | exact Drawn0.refl _ | apply Drawn0.step)⟩
def cmp_Compare_uint32.f (a0:Int) (a1:Int):Option (Int):=(cmp_isNaN_uint32.f a0).bind fun t166=>((cmp_isNaN_uint32.f a1).bind fun t167=>(if t166=true then (if t167=true then (some 0) else (some (-1))) else (if t167=true then (some 1) else (if a0<a1 then (some (-1)) else (if a0 > a1 then (some 1) else (some 0))))))
theorem cmp_Compare_uint32.calls (a0:Int) (a1:Int) (r:Int) (w:World) (h:cmp_Compare_uint32.f a0 a1=some r) :
  Calls Tryz.prog 264 #[.int .u32 a0,.int .u32 a1] w fun e w'=>e=.returned (.int .i64 r)∧Drawn0 w w':=by
 have H:((cmp_isNaN_uint32.f a0).bind fun t166=>((cmp_isNaN_uint32.f a1).bind fun t167=>(if t166=true then (if t167=true then (some 0) else (some (-1))) else (if t167=true then (some 1) else (if a0<a1 then (some (-1)) else (if a0 > a1 then (some 1) else (some 0)))))))=some r:=h;clear h;replace H:=Option.bind_eq_some_iff.mp H;obtain⟨t166,A30,H⟩:=H;replace H:((cmp_isNaN_uint32.f a1).bind fun t167=>(if t166=true then (if t167=true then (some 0) else (some (-1))) else (if t167=true then (some 1) else (if a0<a1 then (some (-1)) else (if a0 > a1 then (some 1) else (some 0))))))=some r:=H;have A3:=Aside0.mk A30;clear A30;replace H:=Option.bind_eq_some_iff.mp H;obtain⟨t167,A40,H⟩:=H;replace H:(if t166=true then (if t167=true then (some 0) else (some (-1))) else (if t167=true then (some 1) else (if a0<a1 then (some (-1)) else (if a0 > a1 then (some 1) else (some 0)))))=some r:=H;have A4:=Aside0.mk A40;clear A40;by_cases c5:t166=true
 ·subst c5;have H1:(if t167=true then (some 0) else (some (-1)))=some r:=by rw[kAa rfl] at H;exact H
  clear H;have H:=H1;clear H1;by_cases c6:t167=true
  ·subst c6;have H1:(some 0)=some r:=by rw[kAa rfl] at H;exact H
   clear H;have H:=H1;clear H1;obtain rfl:=kAg H;go_enter Tryz.func264,Tryz.ntmps264;go_wp2_with (first | ((with_reducible refine zAi (f:=284) rfl ?_);refine zB4 (some 8) rfl rfl Tryz.func284 kD5 rfl #[.int .u32 a0] rfl kDe ?_;(with_reducible refine (cmp_isNaN_uint32.calls a0 true _ A3.out).mono ?_);rintro e w' ⟨rfl,⟨nd,rfl⟩⟩;refine⟨_,rfl,?_⟩) | ((with_reducible refine zAi (f:=284) rfl ?_);refine zB4 (some 10) rfl rfl Tryz.func284 kD5 rfl #[.int .u32 a1] rfl kDe ?_;(with_reducible refine (cmp_isNaN_uint32.calls a1 true _ A4.out).mono ?_);rintro e w' ⟨rfl,⟨nd,rfl⟩⟩;refine⟨_,rfl,?_⟩));go_ret;exact⟨kDh,by repeat (first | exact Drawn0.refl _ | apply Drawn0.step)⟩
  ·replace c6:=Bool.eq_false_iff.mpr c6;subst c6;have H1:(some (-1))=some r:=by rw[kA9 (show ¬(false=true) by decide)] at H;exact H
   clear H;have H:=H1;clear H1;obtain rfl:=kAg H;go_enter Tryz.func264,Tryz.ntmps264;go_wp2_with (first | ((with_reducible refine zAi (f:=284) rfl ?_);refine zB4 (some 8) rfl rfl Tryz.func284 kD5 rfl #[.int .u32 a0] rfl kDe ?_;(with_reducible refine (cmp_isNaN_uint32.calls a0 true _ A3.out).mono ?_);rintro e w' ⟨rfl,⟨nd,rfl⟩⟩;refine⟨_,rfl,?_⟩) | ((with_reducible refine zAi (f:=284) rfl ?_);refine zB4 (some 10) rfl rfl Tryz.func284 kD5 rfl #[.int .u32 a1] rfl kDe ?_;(with_reducible refine (cmp_isNaN_uint32.calls a1 false _ A4.out).mono ?_);rintro e w' ⟨rfl,⟨nd,rfl⟩⟩;refine⟨_,rfl,?_⟩));go_ret;exact⟨kDh,by repeat (first | exact Drawn0.refl _ | apply Drawn0.step)⟩
 ·replace c5:=Bool.eq_false_iff.mpr c5;subst c5;have H1:(if t167=true then (some 1) else (if a0<a1 then (some (-1)) else (if a0 > a1 then (some 1) else (some 0))))=some r:=by rw[kA9 (show ¬(false=true) by decide)] at H;exact H
  clear H;have H:=H1;clear H1;by_cases c7:t167=true
  ·subst c7;have H1:(some 1)=some r:=by rw[kAa rfl] at H;exact H
   clear H;have H:=H1;clear H1;obtain rfl:=kAg H;go_enter Tryz.func264,Tryz.ntmps264;go_wp2_with (first | ((with_reducible refine zAi (f:=284) rfl ?_);refine zB4 (some 8) rfl rfl Tryz.func284 kD5 rfl #[.int .u32 a0] rfl kDe ?_;(with_reducible refine (cmp_isNaN_uint32.calls a0 false _ A3.out).mono ?_);rintro e w' ⟨rfl,⟨nd,rfl⟩⟩;refine⟨_,rfl,?_⟩) | ((with_reducible refine zAi (f:=284) rfl ?_);refine zB4 (some 10) rfl rfl Tryz.func284 kD5 rfl #[.int .u32 a1] rfl kDe ?_;(with_reducible refine (cmp_isNaN_uint32.calls a1 true _ A4.out).mono ?_);rintro e w' ⟨rfl,⟨nd,rfl⟩⟩;refine⟨_,rfl,?_⟩));go_ret;exact⟨kDh,by repeat (first | exact Drawn0.refl _ | apply Drawn0.step)⟩
  ·replace c7:=Bool.eq_false_iff.mpr c7;subst c7;have H1:(if a0<a1 then (some (-1)) else (if a0 > a1 then (some 1) else (some 0)))=some r:=by rw[kA9 (show ¬(false=true) by decide)] at H;exact H
   clear H;have H:=H1;clear H1;by_cases c8:a0<a1
   ·rw[kAa c8] at H;have c8b0:decide (a0<a1)=true:=kA8 c8;clear c8;obtain rfl:=kAg H;go_enter Tryz.func264,Tryz.ntmps264;go_wp2_with (first | ((with_reducible refine zAi (f:=284) rfl ?_);refine zB4 (some 8) rfl rfl Tryz.func284 kD5 rfl #[.int .u32 a0] rfl kDe ?_;(with_reducible refine (cmp_isNaN_uint32.calls a0 false _ A3.out).mono ?_);rintro e w' ⟨rfl,⟨nd,rfl⟩⟩;refine⟨_,rfl,?_⟩) | ((with_reducible refine zAi (f:=284) rfl ?_);refine zB4 (some 10) rfl rfl Tryz.func284 kD5 rfl #[.int .u32 a1] rfl kDe ?_;(with_reducible refine (cmp_isNaN_uint32.calls a1 false _ A4.out).mono ?_);rintro e w' ⟨rfl,⟨nd,rfl⟩⟩;refine⟨_,rfl,?_⟩));go_ret;exact⟨kDh,by repeat (first | exact Drawn0.refl _ | apply Drawn0.step)⟩
   ·rw[kA9 c8] at H;have c8b0:decide (a0<a1)=false:=kAc c8;clear c8;by_cases c9:a0 > a1
    ·rw[kAa c9] at H;have c9b0:decide (a1<a0)=true:=kA8 c9;clear c9;obtain rfl:=kAg H;go_enter Tryz.func264,Tryz.ntmps264;go_wp2_with (first | ((with_reducible refine zAi (f:=284) rfl ?_);refine zB4 (some 8) rfl rfl Tryz.func284 kD5 rfl #[.int .u32 a0] rfl kDe ?_;(with_reducible refine (cmp_isNaN_uint32.calls a0 false _ A3.out).mono ?_);rintro e w' ⟨rfl,⟨nd,rfl⟩⟩;refine⟨_,rfl,?_⟩) | ((with_reducible refine zAi (f:=284) rfl ?_);refine zB4 (some 10) rfl rfl Tryz.func284 kD5 rfl #[.int .u32 a1] rfl kDe ?_;(with_reducible refine (cmp_isNaN_uint32.calls a1 false _ A4.out).mono ?_);rintro e w' ⟨rfl,⟨nd,rfl⟩⟩;refine⟨_,rfl,?_⟩));go_ret;exact⟨kDh,by repeat (first | exact Drawn0.refl _ | apply Drawn0.step)⟩
    ·rw[kA9 c9] at H;have c9b0:decide (a1<a0)=false:=kAc c9;clear c9;obtain rfl:=kAg H;go_enter Tryz.func264,Tryz.ntmps264;go_wp2_with (first | ((with_reducible refine zAi (f:=284) rfl ?_);refine zB4 (some 8) rfl rfl Tryz.func284 kD5 rfl #[.int .u32 a0] rfl kDe ?_;(with_reducible refine (cmp_isNaN_uint32.calls a0 false _ A3.out).mono ?_);rintro e w' ⟨rfl,⟨nd,rfl⟩⟩;refine⟨_,rfl,?_⟩) | ((with_reducible refine zAi (f:=284) rfl ?_);refine zB4 (some 10) rfl rfl Tryz.func284 kD5 rfl #[.int .u32 a1] rfl kDe ?_;(with_reducible refine (cmp_isNaN_uint32.calls a1 false _ A4.out).mono ?_);rintro e w' ⟨rfl,⟨nd,rfl⟩⟩;refine⟨_,rfl,?_⟩));go_ret;exact⟨kDh,by repeat (first | exact Drawn0.refl _ | apply Drawn0.step)⟩
def limbs_shortly.l0:Nat→List Int→Int→List Int→Int→Int→Int→Option (List Int×Int)
 | 0,_,_,_,_,_,_=>none
 | k+1,x0,x1,x6,x7,x14,x15=>if x15<x14 then (if 0≤(wrap64 ((wrap64 ((x0.length:Int)-1))-x15)) then (if (wrap64 ((wrap64 ((x0.length:Int)-1))-x15))<(x0.length:Int) then (if (IntKind.u64.wrap (x1))=0 then (none) else (if (wrap64 ((wrap64 ((x0.length:Int)-1))-x15))<(x6.length:Int) then (limbs_shortly.l0 k x0 x1 (x6.set ((wrap64 ((wrap64 ((x0.length:Int)-1))-x15)):Int).toNat ((IntKind.u64.wrap (Int.tdiv (IntKind.u64.wrap ((IntKind.u64.wrap (x7*1000000000))+(IntKind.u64.wrap (rd x0 (wrap64 ((wrap64 ((x0.length:Int)-1))-x15)))))) (IntKind.u64.wrap (x1)))) % 4294967296)) (Int.tmod (IntKind.u64.wrap ((IntKind.u64.wrap (x7*1000000000))+(IntKind.u64.wrap (rd x0 (wrap64 ((wrap64 ((x0.length:Int)-1))-x15)))))) (IntKind.u64.wrap (x1))) x14 (wrap64 (x15+1))) else (none))) else (none)) else (none)) else (some (x6,(x7) % 4294967296))
def limbs_shortly.f (k:Nat) (l0:List Int) (a1:Int):Option (List Int×Int):=if 0≤(l0.length:Int) then (if ((l0.length:Int):Int).toNat≤70368744177664 then (limbs_shortly.l0 k l0 a1 (List.replicate ((l0.length:Int):Int).toNat 0) 0 (l0.length:Int) 0) else (none)) else (none)
def limbs_shortly.T8:Bool×List (List Nat×List Nat):=(true,[([],[]),([],[]),([],[]),([],[]),([3],[3]),([2,4],[2,4]),([5],[5]),([],[]),([],[]),([8],[8]),([7,9],[7,9]),([0,1,0,1,2,3,4,5,6],[0,1]),([11,6,0,1,2,3,4,5,6],[6,11]),([10,12,0,1,2,3,4,5,6,7,8,9,10,11,12],[2,7,10])])
def limbs_shortly.B8:List Nat:=[0,0,0,0,8,28,60,0,0,256,896,127,2175,8191]
theorem limbs_shortly.tab8:rtab .any (opsOf Tryz.f259 8)=limbs_shortly.T8:=kD5
theorem limbs_shortly.bits8:waitsOk limbs_shortly.T8.2 limbs_shortly.B8=true:=kD5
theorem limbs_shortly.calls (k:Nat) (A0:Option Addr) (c0:Nat) (l0:List Int) (a1:Int) (r1:List Int) (r2:Int) (w:World) (hr0:Kd.C (Kd.int .u32) w A0 l0.length l0) (hc0:l0.length≤c0) (h:limbs_shortly.f k l0 a1=some (r1,r2)) :
  Calls Tryz.prog 259 #[.slice A0 l0.length c0,.int .u32 a1] w fun e w'=>∃v0_:Value,e=.returned (.tuple #[v0_,.int .u32 r2])∧Kd.R (Kd.int .u32) 270 w' w.heap.size (fun _=>True) v0_ r1∧Below w.heap.size w w':=by
 have HR0:=Aside0.mk hr0;have HC0:=Aside0.mk hc0;clear hr0 hc0;have HB:=Aside0.mk (kA3 w.heap.size w);have H:(if 0≤(l0.length:Int) then (if ((l0.length:Int):Int).toNat≤70368744177664 then (limbs_shortly.l0 k l0 a1 (List.replicate ((l0.length:Int):Int).toNat 0) 0 (l0.length:Int) 0) else (none)) else (none))=some (r1,r2):=h;clear h;by_cases c3:0≤(l0.length:Int)
 ·rw[kAa c3] at H;have c3b0:=kAX c3;have c3b1:decide (0≤(l0.length:Int))=true:=kA8 c3;clear c3;by_cases c4:((l0.length:Int):Int).toNat≤70368744177664
  ·rw[kAa c4] at H;have c4b0:=kAX c4;have c4b1:decide (((l0.length:Int):Int).toNat≤70368744177664)=true:=kA8 c4;clear c4;obtain⟨y170,hy170⟩:∃y_:List Int,y_=(List.replicate ((l0.length:Int):Int).toNat 0):=⟨_,rfl⟩;replace H:(limbs_shortly.l0 k l0 a1 y170 0 (l0.length:Int) 0)=some (r1,r2):=by first | (rw[hy170];with_reducible exact H) | (have H2_:=(Option.bind_some _ _).symm.trans H;rw[hy170];with_reducible exact H2_) | (have H2_:=(Option.bind_some _ _).symm.trans H;with_reducible exact H2_) | with_reducible exact H | (rw[hy170];exact H) | exact H
   have Ny170:=Aside0.mk hy170;clear hy170;have H':=Aside0.mk H;clear H;go_enter Tryz.func259,Tryz.ntmps259;go_wp2_with (first | ((with_reducible refine zFu (N:=12) rfl ?_);refine Kd.R_make (Kd.int .u32) _ 270 rfl (N:=12) rfl 232 _ _ rfl (l0.length:Int) rfl rfl Tryz.underlying232 (.int .u32 0) 4 info270 rfl kD7 kD4 0 (ok:=fun _=>True) (okp:=fun _=>True) rfl (fun _ hk=>hk) trivial (kAn kDf) (kAB (kBi _ (kAn kDf:(l0.length:Int).toNat≤70368744177664)) kD4) (kA3 _ _) (kA2 _) ?_;intro v171 w5 ho6 hb hg_ hnew_;clear hg_ hnew_;(first | rw[← Ny170.out] at ho6 | (simp only[Int.reduceToNat] at ho6;rw[← Ny170.out] at ho6));have n0_:=Aside0.mk (Kd.R_lower ho6 (zCh kDg));have n1_:=Aside0.mk (zB9 kDg hb);clear HB;have HO172:=n0_;have HB:=n1_;clear n0_ n1_;clear hb ho6));go_loopg [7,15] k (fun kq v7 v15 w'=>∃(x6_1:List Int) (x7_1:Int) (x15_1:Int),v7=.int .u64 x7_1∧v15=.int .i64 x15_1∧Aside0 (limbs_shortly.l0 kq l0 a1 x6_1 x7_1 (l0.length:Int) x15_1=some (r1,r2))∧Aside0 (kq≤k)∧Aside0 (Kd.R (Kd.int .u32) 270 w' w.heap.size (fun _=>True) v171 x6_1)∧Aside0 (Below w.heap.size w w'))
   case atStart=>exact⟨(y170),(0),(0),kDh,kDh,H',⟨kA2 _⟩,⟨by (with_reducible repeat (first | apply Kd.R_alloc | apply Kd.R_drewN | apply Kd.R_drew));exact HO172.out⟩,⟨kDg⟩⟩
   case round =>
    clear H'
    try clear c2
    try clear p2
    try clear c3
    try clear c3b0
    try clear c3b1
    try clear c4
    try clear c4b0
    try clear c4b1
    obtain⟨x6_1,x7_1,x15_1,rfl,rfl,HA,HK1,HO_6,HB⟩:=hrel
    cases gk with
    | zero=>exact absurd HA.out (by simp[limbs_shortly.l0])
    | succ k1 =>
     have H:=HA.out;clear HA;simp only[limbs_shortly.l0] at H;by_cases c7:x15_1<(l0.length:Int)
     ·rw[kAa c7] at H;have c7b0:decide (x15_1<(l0.length:Int))=true:=kA8 c7;clear c7;obtain⟨ji8,hji8⟩:∃j_:Int,(wrap64 ((wrap64 ((l0.length:Int)-1))-x15_1))=j_:=⟨_,rfl⟩;replace H:(if 0≤(ji8) then (if (ji8)<(l0.length:Int) then (if (IntKind.u64.wrap (a1))=0 then (none) else (if (ji8)<(x6_1.length:Int) then (limbs_shortly.l0 k1 l0 a1 (x6_1.set ((ji8):Int).toNat ((IntKind.u64.wrap (Int.tdiv (IntKind.u64.wrap ((IntKind.u64.wrap (x7_1*1000000000))+(IntKind.u64.wrap (rd l0 (ji8))))) (IntKind.u64.wrap (a1)))) % 4294967296)) (Int.tmod (IntKind.u64.wrap ((IntKind.u64.wrap (x7_1*1000000000))+(IntKind.u64.wrap (rd l0 (ji8))))) (IntKind.u64.wrap (a1))) (l0.length:Int) (wrap64 (x15_1+1))) else (none))) else (none)) else (none))=some (r1,r2):=by first | (rw[hji8] at H;exact H) | (simp only[hji8] at H⊢;exact H)
      have hji8w:(IntKind.i64.wrap ((wrap64 ((l0.length:Int)-1))-x15_1))=ji8:=(zAd _).trans hji8;by_cases c9:0≤(ji8)
      ·rw[kAa c9] at H;have c9b0:decide (0≤(ji8))=true:=kA8 c9;clear c9;by_cases c10:(ji8)<(l0.length:Int)
       ·rw[kAa c10] at H;have c10b0:decide ((ji8)<(l0.length:Int))=true:=kA8 c10;clear c10;by_cases c11:(IntKind.u64.wrap (a1))=0
        ·rw[kAa c11] at H;exact absurd H kD6
        ·rw[kA9 c11] at H;have c11b0:((IntKind.u64.wrap (a1))==0)=false:=beq_eq_false_iff_ne.mpr c11;have c11b1:((IntKind.u64.wrap (a1)) != 0)=true:=bne_iff_ne.mpr c11;by_cases c12:(ji8)<(x6_1.length:Int)
         ·rw[kAa c12] at H;have c12b0:decide ((ji8)<(x6_1.length:Int))=true:=kA8 c12;clear c12;obtain⟨y174,hy174⟩:∃y_:List Int,y_=(x6_1.set ((ji8):Int).toNat ((IntKind.u64.wrap (Int.tdiv (IntKind.u64.wrap ((IntKind.u64.wrap (x7_1*1000000000))+(IntKind.u64.wrap (rd l0 (ji8))))) (IntKind.u64.wrap (a1)))) % 4294967296)):=⟨_,rfl⟩;replace H:(limbs_shortly.l0 k1 l0 a1 y174 (Int.tmod (IntKind.u64.wrap ((IntKind.u64.wrap (x7_1*1000000000))+(IntKind.u64.wrap (rd l0 (ji8))))) (IntKind.u64.wrap (a1))) (l0.length:Int) (wrap64 (x15_1+1)))=some (r1,r2):=by first | (rw[hy174];with_reducible exact H) | (have H2_:=(Option.bind_some _ _).symm.trans H;rw[hy174];with_reducible exact H2_) | (have H2_:=(Option.bind_some _ _).symm.trans H;with_reducible exact H2_) | with_reducible exact H | (rw[hy174];exact H) | exact H
          have Ny174:=Aside0.mk hy174;clear hy174;have H':=Aside0.mk H;clear H;have p173:0≤((ji8):Int):=kAn kDf;have q173:(ji8)<(l0.length:Int):=kAn kDf;obtain⟨ad173,e173,hx173_0⟩:=Kd.at_int HR0.out (ji8) p173 q173
          cases e173;replace hx173_0:=(HB.out.cell (kAJ w _ hx173_0)).trans hx173_0;replace p173:=kAX p173;replace q173:=kAX q173
          try go_wp2
          have n0_:=Aside0.mk (Kd.R_drew HO_6.out);have n1_:=Aside0.mk (zAc HB.out);clear HO_6;clear HB;have HO_6:=n0_;have HB:=n1_;clear n0_ n1_;have p13:0≤((ji8):Int):=kAn kDf;have q13:((ji8):Int)<((x6_1.length:Int):Int):=kAn kDf;obtain⟨go13,co13,eo13,gb13,gl13,cl13,HG13⟩:=Kd.R_form HO_6.out kD4
          (first | cases eo13 | (injection eo13 with ea_ en_ ec_;(first | subst ea_ | (injection ea_ with ea_;subst ea_));subst ec_;clear en_))
          have GB13:=Aside0.mk gb13;have GG13:=Aside0.mk HG13;clear gb13 gl13 HG13;obtain⟨hx13_0,hf13_0⟩:=Kd.R_celln 0 HO_6.out ((ji8):Int) p13 q13;replace p13:=kAX p13;replace q13:=kAX q13;have HP15:=Kd.R_putn HO_6.out ((ji8):Int) ((IntKind.u64.wrap (Int.tdiv (IntKind.u64.wrap ((IntKind.u64.wrap (x7_1*1000000000))+(IntKind.u64.wrap (rd l0 (ji8))))) (IntKind.u64.wrap (a1)))) % 4294967296);rw[← Ny174.out] at HP15;have HQ15:=Aside0.mk HP15;clear HP15;refine zDE (n:=14) (S:=fun w'=>True) (ds:=[12]) #[false,false,false,false,false,false,false,false,false,false,false,false,false,false] kD5 rfl rfl trivial (fun hHeld=>?_);refine with_tabW limbs_shortly.tab8 limbs_shortly.bits8 (fun HT_ HW_=>?_);generalize wr.drew=w14 at HO_6 HB GG13 HQ15 hf13_0 hx13_0 hHeld ⊢;refine zAq (i:=0) (N:=some 31) (v:=?_) (a':=?_) #[true,false,false,false,false,false,false,false,false,false,false,false,false,false] rfl rfl (zBT HT_.out kD5) (fun _ _ _ h=>h) (Or.inl ⟨kD9,?_⟩) ?_ ?_;rotate_left
          ·intro w';go_simp
           with_reducible rfl
          rotate_left
          ·simp only[Act.put,kA0,List.set_cons_zero,List.set_cons_succ,zAd,zAe];rfl
          refine zAq (i:=1) (N:=some 32) (v:=?_) (a':=?_) #[true,true,false,false,false,false,false,false,false,false,false,false,false,false] rfl rfl (zBT HT_.out kD5) (fun _ _ _ h=>h) (Or.inl ⟨kD9,?_⟩) ?_ ?_;rotate_left
          ·intro w';go_simp
           with_reducible rfl
          rotate_left
          ·simp only[Act.put,kA0,List.set_cons_zero,List.set_cons_succ,zAd,zAe];rfl
          refine zAq (i:=2) (N:=some 33) (v:=?_) (a':=?_) #[true,true,true,false,false,false,false,false,false,false,false,false,false,false] rfl rfl (zBT HT_.out kD5) (fun _ _ _ h=>h) (Or.inl ⟨kD9,?_⟩) ?_ ?_;rotate_left
          ·intro w';go_simp
           with_reducible rfl
          rotate_left
          ·simp only[Act.put,kA0,List.set_cons_zero,List.set_cons_succ,zAd,zAe];rfl
          refine zAq (i:=3) (N:=some 34) (v:=?_) (a':=?_) #[true,true,true,true,false,false,false,false,false,false,false,false,false,false] rfl rfl (zBT HT_.out kD5) (fun _ _ _ h=>h) (Or.inl ⟨kD9,?_⟩) ?_ ?_;rotate_left
          ·intro w';go_simp
           with_reducible rfl
          rotate_left
          ·simp only[Act.put,kA0,List.set_cons_zero,List.set_cons_succ,zAd,zAe];rfl
          refine zAq (i:=4) (N:=some 35) (v:=?_) (a':=?_) #[true,true,true,true,true,false,false,false,false,false,false,false,false,false] rfl rfl (zBT HT_.out kD5) (fun _ _ _ h=>h) (Or.inl ⟨kD9,?_⟩) ?_ ?_;rotate_left
          ·intro w';go_simp
           with_reducible rfl
          rotate_left
          ·simp only[Act.put,kA0,List.set_cons_zero,List.set_cons_succ,zAd,zAe];rfl
          refine zAq (i:=5) (N:=some 36) (v:=?_) (a':=?_) #[true,true,true,true,true,true,false,false,false,false,false,false,false,false] rfl rfl (zBT HT_.out kD5) (fun _ _ _ h=>h) (Or.inl ⟨kD9,?_⟩) ?_ ?_;rotate_left
          ·intro w';go_simp
           with_reducible rfl
          rotate_left
          ·simp only[Act.put,kA0,List.set_cons_zero,List.set_cons_succ,zAd,zAe];rfl
          refine zAq (i:=6) (N:=some 37) (v:=?_) (a':=?_) #[true,true,true,true,true,true,true,false,false,false,false,false,false,false] rfl rfl (zBT HT_.out kD5) (fun _ _ _ h=>h) (Or.inl ⟨kD9,?_⟩) ?_ ?_;rotate_left
          ·intro w';go_simp
           with_reducible rfl
          rotate_left
          ·simp only[Act.put,kA0,List.set_cons_zero,List.set_cons_succ,zAd,zAe];rfl
          refine zAq (i:=7) (N:=some 38) (v:=?_) (a':=?_) #[true,true,true,true,true,true,true,true,false,false,false,false,false,false] rfl rfl (zBT HT_.out kD5) (fun _ _ _ h=>h) (Or.inl ⟨kD9,?_⟩) ?_ ?_;rotate_left
          ·intro w';go_simp
           with_reducible rfl
          rotate_left
          ·simp only[Act.put,kA0,List.set_cons_zero,List.set_cons_succ,zAd,zAe];rfl
          refine zAq (i:=8) (N:=some 39) (v:=?_) (a':=?_) #[true,true,true,true,true,true,true,true,true,false,false,false,false,false] rfl rfl (zBT HT_.out kD5) (fun _ _ _ h=>h) (Or.inl ⟨kD9,?_⟩) ?_ ?_;rotate_left
          ·intro w';go_simp
           with_reducible rfl
          rotate_left
          ·simp only[Act.put,kA0,List.set_cons_zero,List.set_cons_succ,zAd,zAe];rfl
          refine zAq (i:=9) (N:=some 40) (v:=?_) (a':=?_) #[true,true,true,true,true,true,true,true,true,true,false,false,false,false] rfl rfl (zBT HT_.out kD5) (fun _ _ _ h=>h) (Or.inl ⟨kD9,?_⟩) ?_ ?_;rotate_left
          ·intro w';go_simp
           with_reducible rfl
          rotate_left
          ·simp only[Act.put,kA0,List.set_cons_zero,List.set_cons_succ,zAd,zAe];rfl
          refine zAq (i:=10) (N:=some 41) (v:=?_) (a':=?_) #[true,true,true,true,true,true,true,true,true,true,true,false,false,false] rfl rfl (zBT HT_.out kD5) (fun _ _ _ h=>h) (Or.inl ⟨kD9,?_⟩) ?_ ?_;rotate_left
          ·intro w';go_simp
           with_reducible rfl
          rotate_left
          ·simp only[Act.put,kA0,List.set_cons_zero,List.set_cons_succ,zAd,zAe];rfl
          refine zAq (i:=11) (N:=some 42) (v:=?_) (a':=?_) #[true,true,true,true,true,true,true,true,true,true,true,true,false,false] rfl rfl (zBT HT_.out kD5) (fun _ _ _ h=>h) (Or.inl ⟨kD9,?_⟩) ?_ ?_;rotate_left
          ·intro w';go_simp
           with_reducible rfl
          rotate_left
          ·simp only[Act.put,kA0,List.set_cons_zero,List.set_cons_succ,zAd,zAe];rfl
          refine last_ (i:=12) (N:=none) #[true,true,true,true,true,true,true,true,true,true,true,true,true,false] rfl rfl (one_of HT_.out kD5) kD7 (fun K hK=>?_);refine skip_ (w1:=?_) kD9 rfl ?_ ?_;rotate_left
          ·go_simp;rfl
          refine hK.out _ _ ?_;clear hK K;refine zAq (i:=13) (N:=some 7) (v:=?_) (a':=?_) #[true,true,true,true,true,true,true,true,true,true,true,true,true,true] rfl rfl (zBT HT_.out kD5) (fun _ _ _ h=>h) (Or.inl ⟨kD9,?_⟩) ?_ ?_;rotate_left
          ·intro w';go_simp
           with_reducible rfl
          rotate_left
          ·simp only[Act.put,kA0,List.set_cons_zero,List.set_cons_succ,zAd,zAe];rfl
          refine done_ (done_of HT_.out kD5) ?_
          try go_wp2
          go_roundg k1
          case measure=>have:=HK1.out;omega
          case rel=>exact⟨(y174),(Int.tmod (IntKind.u64.wrap ((IntKind.u64.wrap (x7_1*1000000000))+(IntKind.u64.wrap (rd l0 (ji8))))) (IntKind.u64.wrap (a1))),(wrap64 (x15_1+1)),(by first | rfl | (simp;done) | (simp only[← hji8]<;>(first | rfl | simp)) | (simp[*];done)),kDh,H',⟨by have:=HK1.out;omega⟩,⟨by (with_reducible repeat (first | apply Kd.R_alloc | apply Kd.R_drewN | apply Kd.R_drew));exact HQ15.out⟩,⟨by repeat (first | (with_reducible first | exact HB.out | apply zAb | apply zA3 | apply zAc | refine zBj ?_ GB13.out) | exact HB.out)⟩⟩
         ·rw[kA9 c12] at H;exact absurd H kD6
       ·rw[kA9 c10] at H;exact absurd H kD6
      ·rw[kA9 c9] at H;exact absurd H kD6
     ·rw[kA9 c7] at H;have c7b0:decide (x15_1<(l0.length:Int))=false:=kAc c7;clear c7;simp only[Option.some.injEq,kCU] at H;obtain⟨rfl,rfl⟩:=H;go_wp2
      go_ret2
      exact⟨_,by first | rfl | (simp[zAB,zAA]<;>rfl) | (simp[*,zAB,zAA]<;>rfl),by (with_reducible repeat (first | apply Kd.R_alloc | apply Kd.R_drewN | apply Kd.R_drew));exact HO_6.out,kDg⟩
  ·rw[kA9 c4] at H;exact absurd H kD6
 ·rw[kA9 c3] at H;exact absurd H kD6
end
end Go.Proofs.YtjaobihcdkjmbaaGreatDoor.PReadTokens
end
section
namespace Go.Proofs.YtjaobihcdkjmbaaGreatDoor
open Go.RowKit Go.Proofs.YtjaobihcdkjmbaaGreatDoorW.PrintWords Go.Proofs.YtjaobihcdkjmbaaGreatDoor.PReadTokens
abbrev U32:Kd Int:=Kd.int .u32
theorem zEc {w:World} {A:Option Addr} {l:List Int} (h:U32.C w A l.length l) (i:Nat) (hi:i<l.length):∃ad,A=some ad∧w.cell? (ad.add i)=some (.int .u32 l[i]):=by
 obtain⟨ad,h1,h2⟩:=Kd.at_int h i kD4 kD4;refine⟨ad,h1,?_⟩;have e:rd l (i:Int)=l[i]:=by unfold rd;simp[hi]
 rw[e] at h2;exact h2
theorem few_copy (l:List Int) (A:Option Addr) (c:Nat) (X:World) (B:Nat) (hB:X.heap[B]?=some (.cells #[.int .u32 0,.int .u32 0] 309 (0,0))) (hC:U32.C X A l.length l) :
  ∃Y n,(Builtin.copy_ #[232,232] 3 #[.slice (some ⟨B,0,none⟩) 2 2,.slice A l.length c]).run Tryz.prog X=.ok (.int .i64 n) Y∧Y.heap[B]?=some (.cells #[.int .u32 (l.getD 0 0),.int .u32 (l.getD 1 0)] 309 (0,0))∧X.grownBy Y (some B):=by
 have hi:(Tryz.prog.info? 270).map (·.size)=some 1:=kD5
 have b0:=zA1 hB 0;have b1:=zA1 hB 1;have f0:=zA2 hB 0;have f1:=zA2 hB 1
 match l,hC with
 | [],hC =>
  exact⟨X,0,run_copy_none X 232 232 3 270 _ A 2 2 0 c Tryz.underlying232 hi rfl,hB,kAS _ _⟩
 | [a],hC =>
  obtain⟨ad,rfl,h0⟩:=zEc hC 0 kD6;refine⟨X.setCells B 0 [.int .u32 a],1,run_copy_cells X 232 232 3 270 B 0 2 2 ad 1 c [.int .u32 a] Tryz.underlying232 hi rfl (fun j v hv=>?_) (fun j hj=>?_) (fun j hj=>?_) kDx,zA8 hB 0 _,kAf _ _ _ _⟩
  ·match j,hv with
   | 0,hv=>simp at hv;rw[← hv];exact h0
  ·match j,hj with
   | 0,_=>rw[b0];rfl
  ·match j,hj with
   | 0,_=>exact f0
 | a :: b :: r,hC =>
  obtain⟨ad,rfl,h0⟩:=zEc hC 0 kD6;obtain⟨ad2,h2,h1⟩:=zEc hC 1 kD6;obtain rfl:ad=ad2:=by injection h2
  refine⟨X.setCells B 0 [.int .u32 a,.int .u32 b],2,run_copy_cells X 232 232 3 270 B 0 2 2 ad _ c [.int .u32 a,.int .u32 b] Tryz.underlying232 hi (by simp[Nat.min_def]) (fun j v hv=>?_) (fun j hj=>?_) (fun j hj=>?_) kDx,zA8 (zA8 hB 0 _) 1 _,kA7 (kAf _ _ _ _) (kAf _ _ _ _)⟩
  ·match j,hv with
   | 0,hv=>simp at hv;rw[← hv];exact h0
   | 1,hv=>simp at hv;rw[← hv];exact h1
  ·match j,hj with
   | 0,_=>rw[b0];rfl
   | 1,_=>rw[b1];rfl
  ·match j,hj with
   | 0,_=>exact f0
   | 1,_=>exact f1
theorem few_calls (s:Int) (l:List Int) (A:Option Addr) (c:Nat) (w:World) (hC:U32.C w A l.length l) (hl:l.length≤1000000) :
  Calls Tryz.prog 262 #[.agg #[.int .i64 s,.slice A l.length c]] w fun e w'=>e=.returned (.tuple #[.agg #[.int .u32 (l.getD 0 0),.int .u32 (l.getD 1 0)],.bool (decide (l.length≤2))])∧Below w.heap.size w w':=by
 go_enter Tryz.func262,Tryz.ntmps262;go_wp2_with fail;obtain⟨X,hX⟩:∃X,X=((w.alloc (.cells #[.int .i64 s,.slice A l.length c] 234)).alloc (.cells #[.int .u32 0,.int .u32 0] 309)).alloc (.cells #[.int .u32 0,.int .u32 0] 309):=⟨_,rfl⟩;have h0:X.heap[w.heap.size]?=some (.cells #[.int .i64 s,.slice A l.length c] 234 (0,0)):=by rw[hX];exact (kA4 _ _ _ kD8).trans ((kA4 _ _ _ kD6).trans (zA4 w _))
 have h1:X.heap[w.heap.size+1]?=some (.cells #[.int .u32 0,.int .u32 0] 309 (0,0)):=by rw[hX];exact (kA4 _ _ _ kD6).trans (zAD _ _ _ kD6)
 have h2:X.heap[w.heap.size+1+1]?=some (.cells #[.int .u32 0,.int .u32 0] 309 (0,0)):=by rw[hX];exact zAD _ _ _ kD6
 have hb:Below w.heap.size w X:=by rw[hX];exact (((kA3 _ w).alloc (kA2 _) _).alloc kD6 _).alloc kD8 _
 rw[← hX];clear hX;obtain⟨Y,n,hcp,hy,hg⟩:=few_copy l A c X.drew _ h2 (Kd.C_below hC hb.drew);have c0:=zA1 h0 0;have c1:=zA1 h0 1;have k0:=(hg.block w.heap.size (zA5 h0) kDa).trans h0;have k1:=(hg.block (w.heap.size+1) (zA5 h1) kDa).trans h1;have hb2:Below w.heap.size w Y:=hb.drew.grown hg hb.size (fun k e=>by injection e with e;omega);obtain⟨x0,hx0⟩:∃x,x=l.getD 0 0:=⟨_,rfl⟩;obtain⟨x1,hx1⟩:∃x,x=l.getD 1 0:=⟨_,rfl⟩;rw[← hx0,← hx1] at hy;replace hx0:=kA1 hx0;replace hx1:=kA1 hx1;have hdec:decide ((l.length:Int)≤2)=decide (l.length≤2):=kD8
 replace hdec:=kA1 hdec;go_still_tail 3,kD5
 repeat still_step
 try refine wpStill_nil ?_
 change wpList _ _ _ _ _ X.drew;go_wp2;have d1:=zA1 k0 1;have e0:=zA1 hy 0;have e1:=zA1 hy 1;have a0:=zA1 k1 0;have a1:=zA1 k1 1;have f0:=zA2 k1 0;have f1:=zA2 k1 1;clear hcp h0 h1 h2 hb hg c0 c1
 go_region
 all_goals go_wp2
 all_goals
  exact kAi (results_ct Tryz.results262 _ _ (w.heap.size+1) 309 _ (0,0) _ rfl (zAa (kA3 _ _).drew (zBX _ _ k1)) Tryz.underlying309 rfl size309) rfl ⟨by rw[show x0=_ from hx0,show x1=_ from hx1,← show decide ((l.length:Int)≤2)=decide (l.length≤2) from hdec];rfl,((hb2.setCell (p:=⟨w.heap.size+1,0,none⟩) kD6 _).setCell (p:=⟨w.heap.size+1,1,none⟩) kD6 _).drew⟩
end Go.Proofs.YtjaobihcdkjmbaaGreatDoor
end
