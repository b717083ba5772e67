/- The law ReadBlanks answers true for every argument; a part of its proof. -/
import Derived.Test.YtjaobihcdkjmbaaGreatDoorBa
import Derived.Test.YtjaobihcdkjmbaaGreatDoorBb
import Derived.Test.YtjaobihcdkjmbaaGreatDoorB0
import Derived.Test.YtjaobihcdkjmbaaGreatDoorB1
import Derived.Test.YtjaobihcdkjmbaaGreatDoorB2
import Derived.Test.YtjaobihcdkjmbaaGreatDoorB7
import Derived.Test.YtjaobihcdkjmbaaGreatDoorB8
import Derived.Test.YtjaobihcdkjmbaaGreatDoorB9
set_option linter.unusedVariables false
set_option linter.unusedSimpArgs false
namespace Go.Proofs.YtjaobihcdkjmbaaGreatDoor.PReadTokens
end Go.Proofs.YtjaobihcdkjmbaaGreatDoor.PReadTokens
namespace Go.Proofs.YtjaobihcdkjmbaaGreatDoorW.PrintLast
end Go.Proofs.YtjaobihcdkjmbaaGreatDoorW.PrintLast
namespace Go.Proofs.YtjaobihcdkjmbaaGreatDoorW.PrintMore
end Go.Proofs.YtjaobihcdkjmbaaGreatDoorW.PrintMore
namespace Go.Proofs.YtjaobihcdkjmbaaGreatDoorW.PrintWords
end Go.Proofs.YtjaobihcdkjmbaaGreatDoorW.PrintWords
set_option maxRecDepth 100000
set_option maxHeartbeats 8000000
section
namespace Go.Proofs.YtjaobihcdkjmbaaGreatDoor
open Go.RowKit Go.Proofs.YtjaobihcdkjmbaaGreatDoorW.PrintWords Go.Proofs.YtjaobihcdkjmbaaGreatDoor.PReadTokens
section
attribute [local go_sem] Oper.semAt_some
theorem zAu (w:World) (o:Obj) (k:Nat) (h:k=w.heap.size):(w.alloc o).heap[k]?=some o:=by rw[h];exact zA4 w o
def badOf (ts:List S47):Option S47:=ts.find? (fun t=>t.f0 == -1)
theorem zEV {ts:List S47} (h:∀t∈ts,(t.f0 == -1)=false):badOf ts=none:=by
 unfold badOf;rw[List.find?_eq_none];intro t ht;rw[h t ht];simp
theorem badOf_some {init rest:List S47} {t:S47} (h:∀t∈init,(t.f0 == -1)=false) (ht:(t.f0 == -1)=true):badOf (init++t :: rest)=some t:=by
 unfold badOf;rw[List.find?_append,show init.find? (fun t=>t.f0 == -1)=none from zEV h,List.find?_cons,ht];rfl
def zEc (s:ByteArray) (w:World) (e:Ending) (w':World):Prop :=
 match badOf (zA8 s) with
 | none=>∃v,e=.returned (.tuple #[v,.int .i64 0,.int .i64 0])∧zAJ w' w.heap.size v (zA8 s)∧Below w.heap.size w w'
 | some t=>e=.returned (.tuple #[.slice none 0 0,.int .i64 t.f2,.int .i64 1])∧Below w.heap.size w w'
theorem results15 {tmps:Array Value} {W:World} {a b c:Addr} {u v x:Value} (h2:tmps.getD 2 undef=.pointer (some a)) (h3:tmps.getD 3 undef=.pointer (some b)) (h4:tmps.getD 4 undef=.pointer (some c))
  (ha:W.cell? a=some u) (hb:W.cell? b=some v) (hc:W.cell? c=some x):(results Tryz.f15 tmps).run Tryz.prog W=.ok (.tuple #[u,v,x]) W:=by
 have e2:tmps[2]?.getD undef=.pointer (some a):=by simpa using h2
 have e3:tmps[3]?.getD undef=.pointer (some b):=by simpa using h3
 have e4:tmps[4]?.getD undef=.pointer (some c):=by simpa using h4
 simp[results,Tryz.results15,e2,e3,e4,asAddr,go_sem,ha,hb,hc]
theorem Tokens_in (n:Nat) (s:ByteArray) (hs:s.size≤2000) (w:World):CallsIn Fence.wide n Tryz.prog 15 #[.string s] w (zEc s w):=by
 have hD:Fence.wide.depth.isSome=false:=rfl;have hF53:Fence.wide.fn 53:=trivial;have hbig:decide (2000<(s.size:Int))=false:=by rw[kBE];omega
 refine kCp Tryz.func15 rfl trivial ?_ rfl;simp only[Tryz.ntmps15,kAc,List.length_cons,List.length_nil,Nat.reduceAdd,Nat.reduceSub,kAY,Array.replicate_zero,kBj,kAP,List.nil_append,List.cons_append]
 gi_wp2_with (gi_at_call 53;refine (tokens_in (n-1) s _).mono ?_;rintro e w' ⟨rfl,rfl⟩)
 clear hbig;obtain⟨W,hW⟩:∃W,W=(((((w.alloc (.cells #[.slice none 0 0] 35)).alloc (.cells #[.int .i64 0] 3)).alloc (.cells #[.int .i64 0] 36)).alloc (.cells #[.slice none 0 0] 35)).alloc (.cells #[.string s] 9)):=⟨_,rfl⟩;have hz:W.heap.size=w.heap.size+5:=by rw[hW];simp
 have hbW:Below w.heap.size w W:=by rw[hW];exact (((((kA3 _ w).alloc (kA2 _) _).alloc kCV _).alloc kCX _).alloc kCX _).alloc kCX _
 have hR0:W.heap[w.heap.size]?=some (.cells #[.slice none 0 0] 35 (0,0)):=by
  rw[hW];refine (kA4 _ _ _ kD8).trans ?_;refine (kA4 _ _ _ kD8).trans ?_;refine (kA4 _ _ _ kD8).trans ?_;refine (kA4 _ _ _ kD8).trans ?_;exact zAu _ _ _ kCV
 have hR1:W.heap[w.heap.size+1]?=some (.cells #[.int .i64 0] 3 (0,0)):=by
  rw[hW];refine (kA4 _ _ _ kD8).trans ?_;refine (kA4 _ _ _ kD8).trans ?_;refine (kA4 _ _ _ kD8).trans ?_;exact zAu _ _ _ kCV
 have hR2:W.heap[w.heap.size+2]?=some (.cells #[.int .i64 0] 36 (0,0)):=by
  rw[hW];refine (kA4 _ _ _ kD8).trans ?_;refine (kA4 _ _ _ kD8).trans ?_;exact zAu _ _ _ kCV
 have hO:W.heap[w.heap.size+3]?=some (.cells #[.slice none 0 0] 35 (0,0)):=by
  rw[hW];refine (kA4 _ _ _ kD8).trans ?_;exact zAu _ _ _ kCV
 have hB:W.heap[w.heap.size+4]?=some (.cells #[.string s] 9 (0,0)):=by
  rw[hW];exact zAu _ _ _ kCV
 rw[← hW];clear hW;refine zDr (box:=⟨w.heap.size+4,0,none⟩) (s:=s)
  (fun t U=>#[Value.string s,undef,Value.pointer (some ⟨w.heap.size,0,none⟩),Value.pointer (some ⟨w.heap.size+1,0,none⟩),Value.pointer (some ⟨w.heap.size+1+1,0,none⟩),Value.pointer (some ⟨w.heap.size+1+1+1,0,none⟩),Value.pointer (some ⟨U,0,none⟩),Value.string s,
     Value.int IntKind.i64 s.size,Value.bool false,Value.string s,
     Value.func (Fn.func 87) #[] #[Value.pointer (some ⟨w.heap.size+1+1+1+1,0,none⟩)],tokV t,undef,undef,undef,undef,undef,undef,undef,undef,undef,undef])
  rfl kCT (zA1 hB 0)
  (fun pre X=>∃v,zAJ X (W.heap.size+3) v pre∧(∀t∈pre,(t.f0 == -1)=false)∧X.heap[w.heap.size+3]?=some (.cells #[v] 35 (0,0))∧X.heap[w.heap.size]?=some (.cells #[.slice none 0 0] 35 (0,0)) ∧
   X.heap[w.heap.size+1]?=some (.cells #[.int .i64 0] 3 (0,0))∧X.heap[w.heap.size+2]?=some (.cells #[.int .i64 0] 36 (0,0))∧Below w.heap.size w X)
  (fun pre X=>∃init t,pre=init++[t]∧(∀t∈init,(t.f0 == -1)=false)∧(t.f0 == -1)=true∧X.heap[w.heap.size]?=some (.cells #[.slice none 0 0] 35 (0,0)) ∧
   X.heap[w.heap.size+1]?=some (.cells #[.int .i64 t.f2] 3 (0,0))∧X.heap[w.heap.size+2]?=some (.cells #[.int .i64 1] 36 (0,0))∧Below w.heap.size w X)
  ?hI ?hIx ⟨_,kCh _ _ _ _,fun t ht=>(by simp at ht),hO,hR0,hR1,hR2,hbW⟩ ?assign ?body ?done ?stop
 case hI =>
  rintro pre A B k⟨v,ho,hn,hq,h0,h1,h2,hb⟩ hk hg;exact⟨v,ho.kept kCT hg,hn,(hg.block _ (zA5 hq) kCZ).trans hq,(hg.block _ (zA5 h0) kCZ).trans h0,(hg.block _ (zA5 h1) kCZ).trans h1,(hg.block _ (zA5 h2) kCZ).trans h2,hb.grown hg hb.size (fun j e=>by injection e with e;omega)⟩
 case hIx =>
  rintro pre A B k⟨init,t,hp,hn,ht,h0,h1,h2,hb⟩ hk hg;exact⟨init,t,hp,hn,ht,(hg.block _ (zA5 h0) kCZ).trans h0,(hg.block _ (zA5 h1) kCZ).trans h1,(hg.block _ (zA5 h2) kCZ).trans h2,hb.grown hg hb.size (fun j e=>by injection e with e;omega)⟩
 case assign =>
  intro l t A K hK;unfold tokV at hK⊢;unfold tokO at hK
  gi_wp2
  exact hK
 case body =>
  rintro pre t A W0⟨v,ho,hn,hq,h0,h1,h2,hb⟩ hrest hlt hg hz0;unfold tokV;have carry:∀{k:Nat} {o:Obj},A.heap[k]?=some o→k<w.heap.size+5→W0.heap[k]?=some o:=fun {k o} hk hlt5 =>
   (hg.block _ (by simp;have:=zA5 hk;omega) kCZ).trans ((kA4 _ _ _ (by simp;have:=zA5 hk;omega)).trans ((kA4 _ _ _ (zA5 hk)).trans hk))
  have hq0:=carry hq kCT;have h00:=carry h0 kCT;have h10:=carry h1 kCT;have h20:=carry h2 kCT;have hU:W0.heap[A.heap.size+1]?=some (tokO t):=by
   have:=zA4 (A.alloc (tokO t)) (tokO t);rw[kAz] at this;exact (hg.block _ kCV kCZ).trans this
  have hbelow0:=((hb.alloc kCT (tokO t)).alloc kCX (tokO t)).grown hg kCX (fun k e=>by injection e with e;omega);have u0:=zA1 hU 0;have u1:=zA1 hU 1;have u2:=zA1 hU 2;have HU:=kA1 hU;have Hn:=kA1 hn;have Hrest:=kA1 hrest;clear hU carry hn hrest
  cases ht:(t.f0 == -1)
  ·obtain⟨i0,hi,iz0,iz1,iz2⟩:=info_parts info47;have HO:(W0.alloc (tokO t)).ownsRow (W.heap.size+3) 47 3 v pre.length (flat pre) :=
    zAJ.kept (k:=W.heap.size+1) (zAJ.kept (k:=W.heap.size+1) ho kCT (kA6 (zCp A (tokO t) (tokO t) _) hg)) kCT (kAC _ _ _)
   have HN:(W0.alloc (tokO t)).heap[A.heap.size+2]?=some (.cells (tokC t).toArray 47 (0,0)):=by
    have:=zA4 W0 (tokO t);rw[hz0] at this;exact this
   have HC:∀j u,(tokC t)[j]?=some u→(W0.alloc (tokO t)).cell? ((⟨A.heap.size+2,0,none⟩:Addr).add j)=some u:=by simpa using kBP HN
   have hlen:pre.length≤s.size:=by
    obtain⟨rest,hrest⟩:=Hrest.out;have h1:=zDs (s.size+1) s 0;unfold zA8 at hrest;rw[hrest,kAv,List.length_cons] at h1;omega
   have hzc:(Value.agg #[.int .i64 0,.string ⟨#[]⟩,.int .i64 0]).cells.size=3:=rfl;have hone:∀u∈tokC t,u.oneCell'=true:=by simp[tokC,Value.oneCell']
   have hb1:pre.length+1≤maxLen:=kDb
   have hb2:(pre.length+1)*32≤140737488355328:=kCT
   have hb3:W.heap.size+3≤(W0.alloc (tokO t)).heap.size:=kDl
   have hqlt:∀k,k<w.heap.size+5→k<(W0.alloc (tokO t)).heap.size:=fun k hk=>by rw[kAz,hz0];omega
   have hne:∀k,(k<W.heap.size+3∨A.heap.size≤k)→some k≠v.ownBlock:=fun k hk e=>by have:=kBo ho _ e.symm;omega
   have carry1:∀{k:Nat} {o:Obj},W0.heap[k]?=some o→(W0.alloc (tokO t)).heap[k]?=some o:=fun {k o} hk=>(kA4 _ _ _ (zA5 hk)).trans hk
   have q0:W0.cell? ⟨w.heap.size+1+1+1,0,none⟩=some v:=zA1 hq0 0;have q1:W0.frozen? ⟨w.heap.size+1+1+1,0,none⟩=false:=zA2 hq0 0;have H1:=kA1 HO;have H2:=kA1 HC;have HL:=kA1 hqlt;have HNE:=kA1 hne;have K0:=kA1 (carry1 h00);have K1:=kA1 (carry1 h10);have K2:=kA1 (carry1 h20);have KQ:=kA1 (carry1 hq0);clear HO HC HN hqlt hne carry1 h00 h10 h20 h0 h1 h2 hq hq0
   gi_wp2_with (gi_at_builtin;refine kC4 _ rfl _ _ 35 rfl (W.heap.size+3) 47 i0 (.agg #[.int .i64 0,.string ⟨#[]⟩,.int .i64 0]) 3 32 Tryz.underlying35 hi iz0 iz1 iz2 hzc (kCn 2) v pre.length (flat pre) rfl H1.out ⟨A.heap.size+2,0,none⟩ 1 1 (tokC t) rfl rfl H2.out hone hb1 hb2 hb3 ?_;intro v' w1 hown' hgrow _;obtain⟨Av,cv,rfl⟩:=zC3 hown';have hq1:=(hgrow.block (w.heap.size+3) (HL.out _ kCT) (HNE.out _ (.inl kCT))).trans KQ.out;have c1:w1.cell? ⟨w.heap.size+1+1+1,0,none⟩=some v:=zA1 hq1 0;have c2:w1.frozen? ⟨w.heap.size+1+1+1,0,none⟩=false:=zA2 hq1 0;have HW:=kA1 hown';have KQ1:=kA1 hq1;clear hown' hq1)
   have far:∀{k:Nat} {o:Obj} {x:Value},(W0.alloc (tokO t)).heap[k]?=some o→k<w.heap.size+3→(w1.setCell ⟨w.heap.size+1+1+1,0,none⟩ x).heap[k]?=some o:=fun {k o x} hk hlt3 =>
    (kA5 _ _ _ _ kCX).trans ((hgrow.block _ (HL.out _ kCT) (HNE.out _ (.inl kCT))).trans hk)
   refine⟨?_,⟨.slice Av (pre.length+1) cv,?_,?_,?_,far K0.out kCT,far K1.out kCT,far K2.out kCT,?_⟩,?_,?_⟩
   ·exact ((kCz W0 (tokO t)).trans (kCb hgrow (fun j o hj ho=>by
     obtain⟨cells,hc⟩:=zD6 H1.out j hj;rw[hc] at ho;cases ho;rfl))).trans (kBA _ _ _)
   ·exact zAJ.kept (ts:=pre++[t]) (k:=w.heap.size+1+1+1) (by unfold zAJ;rw[kAv,zFV];exact HW.out) kCT (kAf _ _ _ _)
   ·intro x hx;rcases kC2.1 hx with hx | hx
    ·exact Hn.out x hx
    ·rw[kBu.1 hx];exact ht
   ·exact zA7 KQ1.out 0 _
   ·exact ((hbelow0.alloc kCT (tokO t)).grown hgrow kCX (fun k e=>by have:=(kBo H1.out k e).1;omega)).setCell (p:=⟨w.heap.size+1+1+1,0,none⟩) kCX _
   ·exact (kA5 _ _ _ _ kCX).trans ((hgrow.block _ kDl (HNE.out _ (.inl kCT))).trans (kA4 _ _ _ kCT))
   ·exact (kA5 _ _ _ _ kCX).trans ((hgrow.block _ kDl (HNE.out _ (.inr (kA2 _)))).trans (kA4 _ _ _ kCT))
  ·have a0:=zA1 h00 0;have a1:=zA1 h10 0;have a2:W0.cell? ⟨w.heap.size+1+1,0,none⟩=some (.int .i64 0):=zA1 h20 0;have b0:=zA2 h00 0;have b1:=zA2 h10 0;have b2:W0.frozen? ⟨w.heap.size+1+1,0,none⟩=false:=zA2 h20 0;have K0:=kA1 h00;have K1:=kA1 h10;have K2:=kA1 h20;clear h00 h10 h20 h0 h1 h2 hq hq0
   gi_wp2
   gi_region
   all_goals gi_wp2
   all_goals
    refine⟨?_,pre,t,rfl,Hn.out,ht,?_,?_,?_,?_⟩
    ·exact⟨kCV,fun k o hk ho=>(((kBA W0 _ _).trans (kBA _ _ _)).trans (kBA _ _ _)).same k o hk ho⟩
    ·exact (kA5 _ _ _ _ kD3).trans ((kA5 _ _ _ _ kD3).trans (zA7 K0.out 0 _))
    ·exact (kA5 _ _ _ _ kD3).trans (zA7 ((kA5 _ _ _ _ kD3).trans K1.out) 0 _)
    ·exact zA7 ((kA5 _ _ _ _ kD3).trans ((kA5 _ _ _ _ kD3).trans K2.out)) 0 _
    ·exact ((((hbelow0.setCell (p:=⟨w.heap.size,0,none⟩) (kA2 _) _).setCell (p:=⟨w.heap.size+1,0,none⟩) kCV _).setCell (p:=⟨w.heap.size+1+1,0,none⟩) kCX _)).drew
 case done =>
  rintro X⟨v,ho,hn,hq,h0,h1,h2,hb⟩ hdef;obtain⟨Av,cv,rfl⟩:=zC3 ho;have q0:X.cell? ⟨w.heap.size+1+1+1,0,none⟩=some (.slice Av (zA8 s).length cv):=zA1 hq 0;have a0:=zA1 h0 0;have a1:=zA1 h1 0;have a2:X.cell? ⟨w.heap.size+1+1,0,none⟩=some (.int .i64 0):=zA1 h2 0;have b0:=zA2 h0 0;have b1:=zA2 h1 0;have b2:X.frozen? ⟨w.heap.size+1+1,0,none⟩=false:=zA2 h2 0;have K0:=kA1 h0;have K1:=kA1 h1;have K2:=kA1 h2;have Hn:=kA1 hn;clear h0 h1 h2 hq hn
  gi_wp2
  have hd:(((X.setCell ⟨w.heap.size,0,none⟩ (.slice Av (zA8 s).length cv)).setCell ⟨w.heap.size+1,0,none⟩ (.int .i64 0)).setCell ⟨w.heap.size+1+1,0,none⟩ (.int .i64 0)).heap[W.heap.size]?=some (.deferred (some [])) :=
   (kA5 _ _ _ _ kCX).trans ((kA5 _ _ _ _ kCX).trans ((kA5 _ _ _ _ kCX).trans hdef))
  have hbb:=((hb.setCell (p:=⟨w.heap.size,0,none⟩) (kA2 _) (.slice Av (zA8 s).length cv)).setCell (p:=⟨w.heap.size+1,0,none⟩) kCV (.int .i64 0)).setCell (p:=⟨w.heap.size+1+1,0,none⟩) kCX (.int .i64 0);have hoo:zAJ (((X.setCell ⟨w.heap.size,0,none⟩ (.slice Av (zA8 s).length cv)).setCell ⟨w.heap.size+1,0,none⟩ (.int .i64 0)).setCell ⟨w.heap.size+1+1,0,none⟩ (.int .i64 0)) (W.heap.size+3) (.slice Av (zA8 s).length cv) (zA8 s) :=
   zAJ.kept (k:=w.heap.size+1+1) (zAJ.kept (k:=w.heap.size+1) (zAJ.kept (k:=w.heap.size) ho kCT (kAf _ _ _ _)) kCT (kAf _ _ _ _)) kCT (kAf _ _ _ _)
  have g0:=(kA5 ((X.setCell ⟨w.heap.size,0,none⟩ (.slice Av (zA8 s).length cv)).setCell ⟨w.heap.size+1,0,none⟩ (.int .i64 0)) ⟨w.heap.size+1+1,0,none⟩ (.int .i64 0) w.heap.size kD3).trans ((kA5 _ _ _ _ kD3).trans (zA7 K0.out 0 _));have g1:=(kA5 ((X.setCell ⟨w.heap.size,0,none⟩ (.slice Av (zA8 s).length cv)).setCell ⟨w.heap.size+1,0,none⟩ (.int .i64 0)) ⟨w.heap.size+1+1,0,none⟩ (.int .i64 0) (w.heap.size+1) kD3).trans (zA7 ((kA5 _ _ _ _ kD3).trans K1.out) 0 _);have g2:(((X.setCell ⟨w.heap.size,0,none⟩ (.slice Av (zA8 s).length cv)).setCell ⟨w.heap.size+1,0,none⟩ (.int .i64 0)).setCell ⟨w.heap.size+1+1,0,none⟩ (.int .i64 0)).heap[w.heap.size+2]?=_:=zA7 ((kA5 _ _ _ _ kD3).trans ((kA5 _ _ _ _ kD3).trans K2.out)) 0 _;generalize (((X.setCell ⟨w.heap.size,0,none⟩ (.slice Av (zA8 s).length cv)).setCell ⟨w.heap.size+1,0,none⟩ (.int .i64 0)).setCell ⟨w.heap.size+1+1,0,none⟩ (.int .i64 0))=X' at *;refine⟨kCV,.inl ⟨_,_,rfl,kC8 hd,?_⟩⟩;have j0:=zA1 ((kAp (w:=X') (o:=.deferred none) (r:=W.heap.size) kCT).trans g0) 0;have j1:=zA1 ((kAp (w:=X') (o:=.deferred none) (r:=W.heap.size) kCT).trans g1) 0;have j2:=zA1 ((kAp (w:=X') (o:=.deferred none) (r:=W.heap.size) kCT).trans g2) 0;refine⟨_,results15 rfl rfl rfl j0 j1 j2,?_⟩;unfold zEc;rw[zEV Hn.out];refine⟨_,rfl,?_,?_⟩
  ·exact zDK (zAJ.kept (k:=W.heap.size) hoo kCT (zAt _ _ _)) kCT
  ·exact hbb.grown (zAt _ _ _) (by have:=hbb.size;exact this) (fun k e=>by injection e with e;omega)
 case stop =>
  rintro pre rest X hpr⟨init,t,hp,hn,ht,h0,h1,h2,hb⟩ hdef;have Hpr:=kA1 hpr;have Hp:=kA1 hp;have Hn:=kA1 hn;have Ht:=kA1 ht;have K0:=kA1 h0;have K1:=kA1 h1;have K2:=kA1 h2;clear hpr hp hn ht h0 h1 h2
  gi_wp2
  refine⟨kCV,.inl ⟨_,_,rfl,kC8 hdef,?_⟩⟩;have j0:=zA1 ((kAp (w:=X) (o:=.deferred none) (r:=W.heap.size) kCT).trans K0.out) 0;have j1:=zA1 ((kAp (w:=X) (o:=.deferred none) (r:=W.heap.size) kCT).trans K1.out) 0;have j2:=zA1 ((kAp (w:=X) (o:=.deferred none) (r:=W.heap.size) kCT).trans K2.out) 0;refine⟨_,results15 rfl rfl rfl j0 j1 j2,?_⟩;unfold zEc;rw[Hpr.out,Hp.out,kAV,List.singleton_append,badOf_some Hn.out Ht.out];exact⟨rfl,hb.grown (zAt _ _ _) hb.size (fun k e=>by injection e with e;omega)⟩
theorem zDG (s:ByteArray) (hs:s.size≤2000) (w:World):Calls Tryz.prog 15 #[.string s] w (zEc s w):=kBl.1 (Tokens_in 9 s hs w)
theorem newQueue_calls (s:ByteArray) (hs:s.size≤2000) (w:World):Calls Tryz.prog 133 #[.string s] w fun e w' =>
  ∃v,e=.returned (.agg #[v,.int .i64 0,.int .i64 s.size])∧zAJ w' w.heap.size v (zA8 s)∧Below w.heap.size w w':=kBl.1 (newQueue_in 9 s hs w)
theorem Tokens_large (s:ByteArray) (h:2000<s.size) (w:World):Calls Tryz.prog 15 #[.string s] w fun e w'=>e=.returned (.tuple #[.slice none 0 0,.int .i64 0,.int .i64 13])∧Below w.heap.size w w':=by
 have hbig:decide (2000<(s.size:Int))=true:=by rw[kAN];omega
 go_enter Tryz.func15,Tryz.ntmps15;go_wp2;refine kAi (results15 rfl rfl rfl (zA1 (t:=35) (cs:=#[.slice none 0 0]) ?_ 0) (zA1 (t:=3) (cs:=#[.int .i64 0]) ?_ 0) (zA1 (t:=36) (cs:=#[.int .i64 13]) ?_ 0)) rfl ⟨rfl,?_⟩
 ·exact (kA4 _ _ _ kCX).trans ((kA4 _ _ _ kCV).trans (zA4 w _))
 ·exact (kA4 _ _ _ kCV).trans (zAu _ _ _ kCV)
 ·exact zAu _ _ _ kCV
 ·exact (((kA3 _ w).alloc (kA2 _) _).alloc kCV _).alloc kCX _
end
end Go.Proofs.YtjaobihcdkjmbaaGreatDoor
end
section
namespace Go.Proofs.YtjaobihcdkjmbaaGreatDoor.PReadTokens
open Go.RowKit Go.Proofs.YtjaobihcdkjmbaaGreatDoorW.PrintWords Go.Proofs.YtjaobihcdkjmbaaGreatDoorW.PrintLast Go.Proofs.YtjaobihcdkjmbaaGreatDoorW.PrintMore
section
attribute [local go_sem] zDS zDQ zEO zEN zDb zDa zDR zDP   -- for this text's walks alone
set_option linter.unusedVariables false
set_option linter.unusedSimpArgs false
def strings_HasPrefix.f (a0:ByteArray) (a1:ByteArray):Option (Bool):=(stringslite_HasPrefix.f a0 a1).bind fun t155=>(some t155)
theorem strings_HasPrefix.calls (a0:ByteArray) (a1:ByteArray) (r:Bool) (w:World) (h:strings_HasPrefix.f a0 a1=some r) :
  Calls Tryz.prog 227 #[.string a0,.string a1] w fun e w'=>e=.returned (.bool r)∧Drawn0 w w':=by
 have H:((stringslite_HasPrefix.f a0 a1).bind fun t155=>(some t155))=some r:=h;clear h;replace H:=Option.bind_eq_some_iff.mp H;obtain⟨t155,A30,H⟩:=H;replace H:(some t155)=some r:=H;have A3:=Aside0.mk A30;clear A30;obtain rfl:=kAg H;go_enter Tryz.func227,Tryz.ntmps227;go_wp2_with (first | ((with_reducible refine zAh (f:=177) rfl ?_);refine zAX (some 7) rfl rfl Tryz.func177 kCU rfl #[.string a0,.string a1] rfl kD2 ?_;(with_reducible refine (stringslite_HasPrefix.calls a0 a1 t155 _ A3.out).mono ?_);rintro e w' ⟨rfl,⟨nd,rfl⟩⟩;refine⟨_,rfl,?_⟩));go_ret;exact⟨kD6,by repeat (first | exact Drawn0.refl _ | apply Drawn0.step)⟩
def cmp_isNaN_int.f (a0:Int):Option (Bool):=some (a0 != a0)
theorem cmp_isNaN_int.calls (a0:Int) (r:Bool) (w:World) (h:cmp_isNaN_int.f a0=some r) :
  Calls Tryz.prog 283 #[.int .i64 a0] w fun e w'=>e=.returned (.bool r)∧Drawn0 w w':=by
 have H:(some (a0 != a0))=some r:=h;clear h;obtain rfl:=kAg H;go_enter Tryz.func283,Tryz.ntmps283;go_wp2;go_ret;exact⟨kD6,by repeat (first | exact Drawn0.refl _ | apply Drawn0.step)⟩
def cmp_Compare_int.f (a0:Int) (a1:Int):Option (Int):=(cmp_isNaN_int.f a0).bind fun t164=>((cmp_isNaN_int.f a1).bind fun t165=>(if t164=true then (if t165=true then (some 0) else (some (-1))) else (if t165=true then (some 1) else (if a0<a1 then (some (-1)) else (if a0 > a1 then (some 1) else (some 0))))))
theorem cmp_Compare_int.calls (a0:Int) (a1:Int) (r:Int) (w:World) (h:cmp_Compare_int.f a0 a1=some r) :
  Calls Tryz.prog 263 #[.int .i64 a0,.int .i64 a1] w fun e w'=>e=.returned (.int .i64 r)∧Drawn0 w w':=by
 have H:((cmp_isNaN_int.f a0).bind fun t164=>((cmp_isNaN_int.f a1).bind fun t165=>(if t164=true then (if t165=true then (some 0) else (some (-1))) else (if t165=true then (some 1) else (if a0<a1 then (some (-1)) else (if a0 > a1 then (some 1) else (some 0)))))))=some r:=h;clear h;replace H:=Option.bind_eq_some_iff.mp H;obtain⟨t164,A30,H⟩:=H;replace H:((cmp_isNaN_int.f a1).bind fun t165=>(if t164=true then (if t165=true then (some 0) else (some (-1))) else (if t165=true then (some 1) else (if a0<a1 then (some (-1)) else (if a0 > a1 then (some 1) else (some 0))))))=some r:=H;have A3:=Aside0.mk A30;clear A30;replace H:=Option.bind_eq_some_iff.mp H;obtain⟨t165,A40,H⟩:=H;replace H:(if t164=true then (if t165=true then (some 0) else (some (-1))) else (if t165=true then (some 1) else (if a0<a1 then (some (-1)) else (if a0 > a1 then (some 1) else (some 0)))))=some r:=H;have A4:=Aside0.mk A40;clear A40;by_cases c5:t164=true
 ·subst c5;have H1:(if t165=true then (some 0) else (some (-1)))=some r:=by rw[kAa rfl] at H;exact H
  clear H;have H:=H1;clear H1;by_cases c6:t165=true
  ·subst c6;have H1:(some 0)=some r:=by rw[kAa rfl] at H;exact H
   clear H;have H:=H1;clear H1;obtain rfl:=kAg H;go_enter Tryz.func263,Tryz.ntmps263;go_wp2_with (first | ((with_reducible refine zAh (f:=283) rfl ?_);refine zAX (some 8) rfl rfl Tryz.func283 kCU rfl #[.int .i64 a0] rfl kD2 ?_;(with_reducible refine (cmp_isNaN_int.calls a0 true _ A3.out).mono ?_);rintro e w' ⟨rfl,⟨nd,rfl⟩⟩;refine⟨_,rfl,?_⟩) | ((with_reducible refine zAh (f:=283) rfl ?_);refine zAX (some 10) rfl rfl Tryz.func283 kCU rfl #[.int .i64 a1] rfl kD2 ?_;(with_reducible refine (cmp_isNaN_int.calls a1 true _ A4.out).mono ?_);rintro e w' ⟨rfl,⟨nd,rfl⟩⟩;refine⟨_,rfl,?_⟩));go_ret;exact⟨kD6,by repeat (first | exact Drawn0.refl _ | apply Drawn0.step)⟩
  ·replace c6:=Bool.eq_false_iff.mpr c6;subst c6;have H1:(some (-1))=some r:=by rw[kA9 (show ¬(false=true) by decide)] at H;exact H
   clear H;have H:=H1;clear H1;obtain rfl:=kAg H;go_enter Tryz.func263,Tryz.ntmps263;go_wp2_with (first | ((with_reducible refine zAh (f:=283) rfl ?_);refine zAX (some 8) rfl rfl Tryz.func283 kCU rfl #[.int .i64 a0] rfl kD2 ?_;(with_reducible refine (cmp_isNaN_int.calls a0 true _ A3.out).mono ?_);rintro e w' ⟨rfl,⟨nd,rfl⟩⟩;refine⟨_,rfl,?_⟩) | ((with_reducible refine zAh (f:=283) rfl ?_);refine zAX (some 10) rfl rfl Tryz.func283 kCU rfl #[.int .i64 a1] rfl kD2 ?_;(with_reducible refine (cmp_isNaN_int.calls a1 false _ A4.out).mono ?_);rintro e w' ⟨rfl,⟨nd,rfl⟩⟩;refine⟨_,rfl,?_⟩));go_ret;exact⟨kD6,by repeat (first | exact Drawn0.refl _ | apply Drawn0.step)⟩
 ·replace c5:=Bool.eq_false_iff.mpr c5;subst c5;have H1:(if t165=true then (some 1) else (if a0<a1 then (some (-1)) else (if a0 > a1 then (some 1) else (some 0))))=some r:=by rw[kA9 (show ¬(false=true) by decide)] at H;exact H
  clear H;have H:=H1;clear H1;by_cases c7:t165=true
  ·subst c7;have H1:(some 1)=some r:=by rw[kAa rfl] at H;exact H
   clear H;have H:=H1;clear H1;obtain rfl:=kAg H;go_enter Tryz.func263,Tryz.ntmps263;go_wp2_with (first | ((with_reducible refine zAh (f:=283) rfl ?_);refine zAX (some 8) rfl rfl Tryz.func283 kCU rfl #[.int .i64 a0] rfl kD2 ?_;(with_reducible refine (cmp_isNaN_int.calls a0 false _ A3.out).mono ?_);rintro e w' ⟨rfl,⟨nd,rfl⟩⟩;refine⟨_,rfl,?_⟩) | ((with_reducible refine zAh (f:=283) rfl ?_);refine zAX (some 10) rfl rfl Tryz.func283 kCU rfl #[.int .i64 a1] rfl kD2 ?_;(with_reducible refine (cmp_isNaN_int.calls a1 true _ A4.out).mono ?_);rintro e w' ⟨rfl,⟨nd,rfl⟩⟩;refine⟨_,rfl,?_⟩));go_ret;exact⟨kD6,by repeat (first | exact Drawn0.refl _ | apply Drawn0.step)⟩
  ·replace c7:=Bool.eq_false_iff.mpr c7;subst c7;have H1:(if a0<a1 then (some (-1)) else (if a0 > a1 then (some 1) else (some 0)))=some r:=by rw[kA9 (show ¬(false=true) by decide)] at H;exact H
   clear H;have H:=H1;clear H1;by_cases c8:a0<a1
   ·rw[kAa c8] at H;have c8b0:decide (a0<a1)=true:=kA7 c8;clear c8;obtain rfl:=kAg H;go_enter Tryz.func263,Tryz.ntmps263;go_wp2_with (first | ((with_reducible refine zAh (f:=283) rfl ?_);refine zAX (some 8) rfl rfl Tryz.func283 kCU rfl #[.int .i64 a0] rfl kD2 ?_;(with_reducible refine (cmp_isNaN_int.calls a0 false _ A3.out).mono ?_);rintro e w' ⟨rfl,⟨nd,rfl⟩⟩;refine⟨_,rfl,?_⟩) | ((with_reducible refine zAh (f:=283) rfl ?_);refine zAX (some 10) rfl rfl Tryz.func283 kCU rfl #[.int .i64 a1] rfl kD2 ?_;(with_reducible refine (cmp_isNaN_int.calls a1 false _ A4.out).mono ?_);rintro e w' ⟨rfl,⟨nd,rfl⟩⟩;refine⟨_,rfl,?_⟩));go_ret;exact⟨kD6,by repeat (first | exact Drawn0.refl _ | apply Drawn0.step)⟩
   ·rw[kA9 c8] at H;have c8b0:decide (a0<a1)=false:=kA8 c8;clear c8;by_cases c9:a0 > a1
    ·rw[kAa c9] at H;have c9b0:decide (a1<a0)=true:=kA7 c9;clear c9;obtain rfl:=kAg H;go_enter Tryz.func263,Tryz.ntmps263;go_wp2_with (first | ((with_reducible refine zAh (f:=283) rfl ?_);refine zAX (some 8) rfl rfl Tryz.func283 kCU rfl #[.int .i64 a0] rfl kD2 ?_;(with_reducible refine (cmp_isNaN_int.calls a0 false _ A3.out).mono ?_);rintro e w' ⟨rfl,⟨nd,rfl⟩⟩;refine⟨_,rfl,?_⟩) | ((with_reducible refine zAh (f:=283) rfl ?_);refine zAX (some 10) rfl rfl Tryz.func283 kCU rfl #[.int .i64 a1] rfl kD2 ?_;(with_reducible refine (cmp_isNaN_int.calls a1 false _ A4.out).mono ?_);rintro e w' ⟨rfl,⟨nd,rfl⟩⟩;refine⟨_,rfl,?_⟩));go_ret;exact⟨kD6,by repeat (first | exact Drawn0.refl _ | apply Drawn0.step)⟩
    ·rw[kA9 c9] at H;have c9b0:decide (a1<a0)=false:=kA8 c9;clear c9;obtain rfl:=kAg H;go_enter Tryz.func263,Tryz.ntmps263;go_wp2_with (first | ((with_reducible refine zAh (f:=283) rfl ?_);refine zAX (some 8) rfl rfl Tryz.func283 kCU rfl #[.int .i64 a0] rfl kD2 ?_;(with_reducible refine (cmp_isNaN_int.calls a0 false _ A3.out).mono ?_);rintro e w' ⟨rfl,⟨nd,rfl⟩⟩;refine⟨_,rfl,?_⟩) | ((with_reducible refine zAh (f:=283) rfl ?_);refine zAX (some 10) rfl rfl Tryz.func283 kCU rfl #[.int .i64 a1] rfl kD2 ?_;(with_reducible refine (cmp_isNaN_int.calls a1 false _ A4.out).mono ?_);rintro e w' ⟨rfl,⟨nd,rfl⟩⟩;refine⟨_,rfl,?_⟩));go_ret;exact⟨kD6,by repeat (first | exact Drawn0.refl _ | apply Drawn0.step)⟩
def cmp_isNaN_uint32.f (a0:Int):Option (Bool):=some (a0 != a0)
theorem cmp_isNaN_uint32.calls (a0:Int) (r:Bool) (w:World) (h:cmp_isNaN_uint32.f a0=some r) :
  Calls Tryz.prog 284 #[.int .u32 a0] w fun e w'=>e=.returned (.bool r)∧Drawn0 w w':=by
 have H:(some (a0 != a0))=some r:=h;clear h;obtain rfl:=kAg H;go_enter Tryz.func284,Tryz.ntmps284;go_wp2;go_ret;exact⟨kD6,by repeat (first | exact Drawn0.refl _ | apply Drawn0.step)⟩
def cmp_Compare_uint32.f (a0:Int) (a1:Int):Option (Int):=(cmp_isNaN_uint32.f a0).bind fun t166=>((cmp_isNaN_uint32.f a1).bind fun t167=>(if t166=true then (if t167=true then (some 0) else (some (-1))) else (if t167=true then (some 1) else (if a0<a1 then (some (-1)) else (if a0 > a1 then (some 1) else (some 0))))))
theorem cmp_Compare_uint32.calls (a0:Int) (a1:Int) (r:Int) (w:World) (h:cmp_Compare_uint32.f a0 a1=some r) :
  Calls Tryz.prog 264 #[.int .u32 a0,.int .u32 a1] w fun e w'=>e=.returned (.int .i64 r)∧Drawn0 w w':=by
 have H:((cmp_isNaN_uint32.f a0).bind fun t166=>((cmp_isNaN_uint32.f a1).bind fun t167=>(if t166=true then (if t167=true then (some 0) else (some (-1))) else (if t167=true then (some 1) else (if a0<a1 then (some (-1)) else (if a0 > a1 then (some 1) else (some 0)))))))=some r:=h;clear h;replace H:=Option.bind_eq_some_iff.mp H;obtain⟨t166,A30,H⟩:=H;replace H:((cmp_isNaN_uint32.f a1).bind fun t167=>(if t166=true then (if t167=true then (some 0) else (some (-1))) else (if t167=true then (some 1) else (if a0<a1 then (some (-1)) else (if a0 > a1 then (some 1) else (some 0))))))=some r:=H;have A3:=Aside0.mk A30;clear A30;replace H:=Option.bind_eq_some_iff.mp H;obtain⟨t167,A40,H⟩:=H;replace H:(if t166=true then (if t167=true then (some 0) else (some (-1))) else (if t167=true then (some 1) else (if a0<a1 then (some (-1)) else (if a0 > a1 then (some 1) else (some 0)))))=some r:=H;have A4:=Aside0.mk A40;clear A40;by_cases c5:t166=true
 ·subst c5;have H1:(if t167=true then (some 0) else (some (-1)))=some r:=by rw[kAa rfl] at H;exact H
  clear H;have H:=H1;clear H1;by_cases c6:t167=true
  ·subst c6;have H1:(some 0)=some r:=by rw[kAa rfl] at H;exact H
   clear H;have H:=H1;clear H1;obtain rfl:=kAg H;go_enter Tryz.func264,Tryz.ntmps264;go_wp2_with (first | ((with_reducible refine zAh (f:=284) rfl ?_);refine zAX (some 8) rfl rfl Tryz.func284 kCU rfl #[.int .u32 a0] rfl kD2 ?_;(with_reducible refine (cmp_isNaN_uint32.calls a0 true _ A3.out).mono ?_);rintro e w' ⟨rfl,⟨nd,rfl⟩⟩;refine⟨_,rfl,?_⟩) | ((with_reducible refine zAh (f:=284) rfl ?_);refine zAX (some 10) rfl rfl Tryz.func284 kCU rfl #[.int .u32 a1] rfl kD2 ?_;(with_reducible refine (cmp_isNaN_uint32.calls a1 true _ A4.out).mono ?_);rintro e w' ⟨rfl,⟨nd,rfl⟩⟩;refine⟨_,rfl,?_⟩));go_ret;exact⟨kD6,by repeat (first | exact Drawn0.refl _ | apply Drawn0.step)⟩
  ·replace c6:=Bool.eq_false_iff.mpr c6;subst c6;have H1:(some (-1))=some r:=by rw[kA9 (show ¬(false=true) by decide)] at H;exact H
   clear H;have H:=H1;clear H1;obtain rfl:=kAg H;go_enter Tryz.func264,Tryz.ntmps264;go_wp2_with (first | ((with_reducible refine zAh (f:=284) rfl ?_);refine zAX (some 8) rfl rfl Tryz.func284 kCU rfl #[.int .u32 a0] rfl kD2 ?_;(with_reducible refine (cmp_isNaN_uint32.calls a0 true _ A3.out).mono ?_);rintro e w' ⟨rfl,⟨nd,rfl⟩⟩;refine⟨_,rfl,?_⟩) | ((with_reducible refine zAh (f:=284) rfl ?_);refine zAX (some 10) rfl rfl Tryz.func284 kCU rfl #[.int .u32 a1] rfl kD2 ?_;(with_reducible refine (cmp_isNaN_uint32.calls a1 false _ A4.out).mono ?_);rintro e w' ⟨rfl,⟨nd,rfl⟩⟩;refine⟨_,rfl,?_⟩));go_ret;exact⟨kD6,by repeat (first | exact Drawn0.refl _ | apply Drawn0.step)⟩
 ·replace c5:=Bool.eq_false_iff.mpr c5;subst c5;have H1:(if t167=true then (some 1) else (if a0<a1 then (some (-1)) else (if a0 > a1 then (some 1) else (some 0))))=some r:=by rw[kA9 (show ¬(false=true) by decide)] at H;exact H
  clear H;have H:=H1;clear H1;by_cases c7:t167=true
  ·subst c7;have H1:(some 1)=some r:=by rw[kAa rfl] at H;exact H
   clear H;have H:=H1;clear H1;obtain rfl:=kAg H;go_enter Tryz.func264,Tryz.ntmps264;go_wp2_with (first | ((with_reducible refine zAh (f:=284) rfl ?_);refine zAX (some 8) rfl rfl Tryz.func284 kCU rfl #[.int .u32 a0] rfl kD2 ?_;(with_reducible refine (cmp_isNaN_uint32.calls a0 false _ A3.out).mono ?_);rintro e w' ⟨rfl,⟨nd,rfl⟩⟩;refine⟨_,rfl,?_⟩) | ((with_reducible refine zAh (f:=284) rfl ?_);refine zAX (some 10) rfl rfl Tryz.func284 kCU rfl #[.int .u32 a1] rfl kD2 ?_;(with_reducible refine (cmp_isNaN_uint32.calls a1 true _ A4.out).mono ?_);rintro e w' ⟨rfl,⟨nd,rfl⟩⟩;refine⟨_,rfl,?_⟩));go_ret;exact⟨kD6,by repeat (first | exact Drawn0.refl _ | apply Drawn0.step)⟩
  ·replace c7:=Bool.eq_false_iff.mpr c7;subst c7;have H1:(if a0<a1 then (some (-1)) else (if a0 > a1 then (some 1) else (some 0)))=some r:=by rw[kA9 (show ¬(false=true) by decide)] at H;exact H
   clear H;have H:=H1;clear H1;by_cases c8:a0<a1
   ·rw[kAa c8] at H;have c8b0:decide (a0<a1)=true:=kA7 c8;clear c8;obtain rfl:=kAg H;go_enter Tryz.func264,Tryz.ntmps264;go_wp2_with (first | ((with_reducible refine zAh (f:=284) rfl ?_);refine zAX (some 8) rfl rfl Tryz.func284 kCU rfl #[.int .u32 a0] rfl kD2 ?_;(with_reducible refine (cmp_isNaN_uint32.calls a0 false _ A3.out).mono ?_);rintro e w' ⟨rfl,⟨nd,rfl⟩⟩;refine⟨_,rfl,?_⟩) | ((with_reducible refine zAh (f:=284) rfl ?_);refine zAX (some 10) rfl rfl Tryz.func284 kCU rfl #[.int .u32 a1] rfl kD2 ?_;(with_reducible refine (cmp_isNaN_uint32.calls a1 false _ A4.out).mono ?_);rintro e w' ⟨rfl,⟨nd,rfl⟩⟩;refine⟨_,rfl,?_⟩));go_ret;exact⟨kD6,by repeat (first | exact Drawn0.refl _ | apply Drawn0.step)⟩
   ·rw[kA9 c8] at H;have c8b0:decide (a0<a1)=false:=kA8 c8;clear c8;by_cases c9:a0 > a1
    ·rw[kAa c9] at H;have c9b0:decide (a1<a0)=true:=kA7 c9;clear c9;obtain rfl:=kAg H;go_enter Tryz.func264,Tryz.ntmps264;go_wp2_with (first | ((with_reducible refine zAh (f:=284) rfl ?_);refine zAX (some 8) rfl rfl Tryz.func284 kCU rfl #[.int .u32 a0] rfl kD2 ?_;(with_reducible refine (cmp_isNaN_uint32.calls a0 false _ A3.out).mono ?_);rintro e w' ⟨rfl,⟨nd,rfl⟩⟩;refine⟨_,rfl,?_⟩) | ((with_reducible refine zAh (f:=284) rfl ?_);refine zAX (some 10) rfl rfl Tryz.func284 kCU rfl #[.int .u32 a1] rfl kD2 ?_;(with_reducible refine (cmp_isNaN_uint32.calls a1 false _ A4.out).mono ?_);rintro e w' ⟨rfl,⟨nd,rfl⟩⟩;refine⟨_,rfl,?_⟩));go_ret;exact⟨kD6,by repeat (first | exact Drawn0.refl _ | apply Drawn0.step)⟩
    ·rw[kA9 c9] at H;have c9b0:decide (a1<a0)=false:=kA8 c9;clear c9;obtain rfl:=kAg H;go_enter Tryz.func264,Tryz.ntmps264;go_wp2_with (first | ((with_reducible refine zAh (f:=284) rfl ?_);refine zAX (some 8) rfl rfl Tryz.func284 kCU rfl #[.int .u32 a0] rfl kD2 ?_;(with_reducible refine (cmp_isNaN_uint32.calls a0 false _ A3.out).mono ?_);rintro e w' ⟨rfl,⟨nd,rfl⟩⟩;refine⟨_,rfl,?_⟩) | ((with_reducible refine zAh (f:=284) rfl ?_);refine zAX (some 10) rfl rfl Tryz.func284 kCU rfl #[.int .u32 a1] rfl kD2 ?_;(with_reducible refine (cmp_isNaN_uint32.calls a1 false _ A4.out).mono ?_);rintro e w' ⟨rfl,⟨nd,rfl⟩⟩;refine⟨_,rfl,?_⟩));go_ret;exact⟨kD6,by repeat (first | exact Drawn0.refl _ | apply Drawn0.step)⟩
def limbs_shortly.l0:Nat→List Int→Int→List Int→Int→Int→Int→Option (List Int×Int)
 | 0,_,_,_,_,_,_=>none
 | k+1,x0,x1,x6,x7,x14,x15=>if x15<x14 then (if 0≤(wrap64 ((wrap64 ((x0.length:Int)-1))-x15)) then (if (wrap64 ((wrap64 ((x0.length:Int)-1))-x15))<(x0.length:Int) then (if (IntKind.u64.wrap (x1))=0 then (none) else (if (wrap64 ((wrap64 ((x0.length:Int)-1))-x15))<(x6.length:Int) then (limbs_shortly.l0 k x0 x1 (x6.set ((wrap64 ((wrap64 ((x0.length:Int)-1))-x15)):Int).toNat ((IntKind.u64.wrap (Int.tdiv (IntKind.u64.wrap ((IntKind.u64.wrap (x7*1000000000))+(IntKind.u64.wrap (rd x0 (wrap64 ((wrap64 ((x0.length:Int)-1))-x15)))))) (IntKind.u64.wrap (x1)))) % 4294967296)) (Int.tmod (IntKind.u64.wrap ((IntKind.u64.wrap (x7*1000000000))+(IntKind.u64.wrap (rd x0 (wrap64 ((wrap64 ((x0.length:Int)-1))-x15)))))) (IntKind.u64.wrap (x1))) x14 (wrap64 (x15+1))) else (none))) else (none)) else (none)) else (some (x6,(x7) % 4294967296))
def limbs_shortly.f (k:Nat) (l0:List Int) (a1:Int):Option (List Int×Int):=if 0≤(l0.length:Int) then (if ((l0.length:Int):Int).toNat≤70368744177664 then (limbs_shortly.l0 k l0 a1 (List.replicate ((l0.length:Int):Int).toNat 0) 0 (l0.length:Int) 0) else (none)) else (none)
def limbs_shortly.T8:Bool×List (List Nat×List Nat):=(true,[([],[]),([],[]),([],[]),([],[]),([3],[3]),([2,4],[2,4]),([5],[5]),([],[]),([],[]),([8],[8]),([7,9],[7,9]),([0,1,0,1,2,3,4,5,6],[0,1]),([11,6,0,1,2,3,4,5,6],[6,11]),([10,12,0,1,2,3,4,5,6,7,8,9,10,11,12],[2,7,10])])
def limbs_shortly.B8:List Nat:=[0,0,0,0,8,28,60,0,0,256,896,127,2175,8191]
theorem limbs_shortly.tab8:rtab .any (opsOf Tryz.f259 8)=limbs_shortly.T8:=kCU
theorem limbs_shortly.bits8:waitsOk limbs_shortly.T8.2 limbs_shortly.B8=true:=kCU
theorem limbs_shortly.calls (k:Nat) (A0:Option Addr) (c0:Nat) (l0:List Int) (a1:Int) (r1:List Int) (r2:Int) (w:World) (hr0:Kd.C (Kd.int .u32) w A0 l0.length l0) (hc0:l0.length≤c0) (h:limbs_shortly.f k l0 a1=some (r1,r2)) :
  Calls Tryz.prog 259 #[.slice A0 l0.length c0,.int .u32 a1] w fun e w'=>∃v0_:Value,e=.returned (.tuple #[v0_,.int .u32 r2])∧Kd.R (Kd.int .u32) 270 w' w.heap.size (fun _=>True) v0_ r1∧Below w.heap.size w w':=by
 have HR0:=Aside0.mk hr0;have HC0:=Aside0.mk hc0;clear hr0 hc0;have HB:=Aside0.mk (kA3 w.heap.size w);have H:(if 0≤(l0.length:Int) then (if ((l0.length:Int):Int).toNat≤70368744177664 then (limbs_shortly.l0 k l0 a1 (List.replicate ((l0.length:Int):Int).toNat 0) 0 (l0.length:Int) 0) else (none)) else (none))=some (r1,r2):=h;clear h;by_cases c3:0≤(l0.length:Int)
 ·rw[kAa c3] at H;have c3b0:=kB7 c3;have c3b1:decide (0≤(l0.length:Int))=true:=kA7 c3;clear c3;by_cases c4:((l0.length:Int):Int).toNat≤70368744177664
  ·rw[kAa c4] at H;have c4b0:=kB7 c4;have c4b1:decide (((l0.length:Int):Int).toNat≤70368744177664)=true:=kA7 c4;clear c4;obtain⟨y170,hy170⟩:∃y_:List Int,y_=(List.replicate ((l0.length:Int):Int).toNat 0):=⟨_,rfl⟩;replace H:(limbs_shortly.l0 k l0 a1 y170 0 (l0.length:Int) 0)=some (r1,r2):=by first | (rw[hy170];with_reducible exact H) | (have H2_:=(Option.bind_some _ _).symm.trans H;rw[hy170];with_reducible exact H2_) | (have H2_:=(Option.bind_some _ _).symm.trans H;with_reducible exact H2_) | with_reducible exact H | (rw[hy170];exact H) | exact H
   have Ny170:=Aside0.mk hy170;clear hy170;have H':=Aside0.mk H;clear H;go_enter Tryz.func259,Tryz.ntmps259;go_wp2_with (first | ((with_reducible refine zFo (N:=12) rfl ?_);refine Kd.R_make (Kd.int .u32) _ 270 rfl (N:=12) rfl 232 _ _ rfl (l0.length:Int) rfl rfl Tryz.underlying232 (.int .u32 0) 4 info270 rfl kCW kCT 0 (ok:=fun _=>True) (okp:=fun _=>True) rfl (fun _ hk=>hk) trivial (kAl kD4) (kAB (kB6 _ (kAl kD4:(l0.length:Int).toNat≤70368744177664)) kCT) (kA3 _ _) (kA2 _) ?_;intro v171 w5 ho6 hb hg_ hnew_;clear hg_ hnew_;(first | rw[← Ny170.out] at ho6 | (simp only[Int.reduceToNat] at ho6;rw[← Ny170.out] at ho6));have n0_:=Aside0.mk (Kd.R_lower ho6 (zCg kD5));have n1_:=Aside0.mk (zB0 kD5 hb);clear HB;have HO172:=n0_;have HB:=n1_;clear n0_ n1_;clear hb ho6));go_loopg [7,15] k (fun kq v7 v15 w'=>∃(x6_1:List Int) (x7_1:Int) (x15_1:Int),v7=.int .u64 x7_1∧v15=.int .i64 x15_1∧Aside0 (limbs_shortly.l0 kq l0 a1 x6_1 x7_1 (l0.length:Int) x15_1=some (r1,r2))∧Aside0 (kq≤k)∧Aside0 (Kd.R (Kd.int .u32) 270 w' w.heap.size (fun _=>True) v171 x6_1)∧Aside0 (Below w.heap.size w w'))
   case atStart=>exact⟨(y170),(0),(0),kD6,kD6,H',⟨kA2 _⟩,⟨by (with_reducible repeat (first | apply Kd.R_alloc | apply Kd.R_drewN | apply Kd.R_drew));exact HO172.out⟩,⟨kD5⟩⟩
   case round =>
    clear H'
    try clear c2
    try clear p2
    try clear c3
    try clear c3b0
    try clear c3b1
    try clear c4
    try clear c4b0
    try clear c4b1
    obtain⟨x6_1,x7_1,x15_1,rfl,rfl,HA,HK1,HO_6,HB⟩:=hrel
    cases gk with
    | zero=>exact absurd HA.out (by simp[limbs_shortly.l0])
    | succ k1 =>
     have H:=HA.out;clear HA;simp only[limbs_shortly.l0] at H;by_cases c7:x15_1<(l0.length:Int)
     ·rw[kAa c7] at H;have c7b0:decide (x15_1<(l0.length:Int))=true:=kA7 c7;clear c7;obtain⟨ji8,hji8⟩:∃j_:Int,(wrap64 ((wrap64 ((l0.length:Int)-1))-x15_1))=j_:=⟨_,rfl⟩;replace H:(if 0≤(ji8) then (if (ji8)<(l0.length:Int) then (if (IntKind.u64.wrap (a1))=0 then (none) else (if (ji8)<(x6_1.length:Int) then (limbs_shortly.l0 k1 l0 a1 (x6_1.set ((ji8):Int).toNat ((IntKind.u64.wrap (Int.tdiv (IntKind.u64.wrap ((IntKind.u64.wrap (x7_1*1000000000))+(IntKind.u64.wrap (rd l0 (ji8))))) (IntKind.u64.wrap (a1)))) % 4294967296)) (Int.tmod (IntKind.u64.wrap ((IntKind.u64.wrap (x7_1*1000000000))+(IntKind.u64.wrap (rd l0 (ji8))))) (IntKind.u64.wrap (a1))) (l0.length:Int) (wrap64 (x15_1+1))) else (none))) else (none)) else (none))=some (r1,r2):=by first | (rw[hji8] at H;exact H) | (simp only[hji8] at H⊢;exact H)
      have hji8w:(IntKind.i64.wrap ((wrap64 ((l0.length:Int)-1))-x15_1))=ji8:=(zAc _).trans hji8;by_cases c9:0≤(ji8)
      ·rw[kAa c9] at H;have c9b0:decide (0≤(ji8))=true:=kA7 c9;clear c9;by_cases c10:(ji8)<(l0.length:Int)
       ·rw[kAa c10] at H;have c10b0:decide ((ji8)<(l0.length:Int))=true:=kA7 c10;clear c10;by_cases c11:(IntKind.u64.wrap (a1))=0
        ·rw[kAa c11] at H;exact absurd H kCV
        ·rw[kA9 c11] at H;have c11b0:((IntKind.u64.wrap (a1))==0)=false:=beq_eq_false_iff_ne.mpr c11;have c11b1:((IntKind.u64.wrap (a1)) != 0)=true:=bne_iff_ne.mpr c11;by_cases c12:(ji8)<(x6_1.length:Int)
         ·rw[kAa c12] at H;have c12b0:decide ((ji8)<(x6_1.length:Int))=true:=kA7 c12;clear c12;obtain⟨y174,hy174⟩:∃y_:List Int,y_=(x6_1.set ((ji8):Int).toNat ((IntKind.u64.wrap (Int.tdiv (IntKind.u64.wrap ((IntKind.u64.wrap (x7_1*1000000000))+(IntKind.u64.wrap (rd l0 (ji8))))) (IntKind.u64.wrap (a1)))) % 4294967296)):=⟨_,rfl⟩;replace H:(limbs_shortly.l0 k1 l0 a1 y174 (Int.tmod (IntKind.u64.wrap ((IntKind.u64.wrap (x7_1*1000000000))+(IntKind.u64.wrap (rd l0 (ji8))))) (IntKind.u64.wrap (a1))) (l0.length:Int) (wrap64 (x15_1+1)))=some (r1,r2):=by first | (rw[hy174];with_reducible exact H) | (have H2_:=(Option.bind_some _ _).symm.trans H;rw[hy174];with_reducible exact H2_) | (have H2_:=(Option.bind_some _ _).symm.trans H;with_reducible exact H2_) | with_reducible exact H | (rw[hy174];exact H) | exact H
          have Ny174:=Aside0.mk hy174;clear hy174;have H':=Aside0.mk H;clear H;have p173:0≤((ji8):Int):=kAl kD4;have q173:(ji8)<(l0.length:Int):=kAl kD4;obtain⟨ad173,e173,hx173_0⟩:=Kd.at_int HR0.out (ji8) p173 q173
          cases e173;replace hx173_0:=(HB.out.cell (kAE w _ hx173_0)).trans hx173_0;replace p173:=kB7 p173;replace q173:=kB7 q173
          try go_wp2
          have n0_:=Aside0.mk (Kd.R_drew HO_6.out);have n1_:=Aside0.mk (zAb HB.out);clear HO_6;clear HB;have HO_6:=n0_;have HB:=n1_;clear n0_ n1_;have p13:0≤((ji8):Int):=kAl kD4;have q13:((ji8):Int)<((x6_1.length:Int):Int):=kAl kD4;obtain⟨go13,co13,eo13,gb13,gl13,cl13,HG13⟩:=Kd.R_form HO_6.out kCT
          (first | cases eo13 | (injection eo13 with ea_ en_ ec_;(first | subst ea_ | (injection ea_ with ea_;subst ea_));subst ec_;clear en_))
          have GB13:=Aside0.mk gb13;have GG13:=Aside0.mk HG13;clear gb13 gl13 HG13;obtain⟨hx13_0,hf13_0⟩:=Kd.R_celln 0 HO_6.out ((ji8):Int) p13 q13;replace p13:=kB7 p13;replace q13:=kB7 q13;have HP15:=Kd.R_putn HO_6.out ((ji8):Int) ((IntKind.u64.wrap (Int.tdiv (IntKind.u64.wrap ((IntKind.u64.wrap (x7_1*1000000000))+(IntKind.u64.wrap (rd l0 (ji8))))) (IntKind.u64.wrap (a1)))) % 4294967296);rw[← Ny174.out] at HP15;have HQ15:=Aside0.mk HP15;clear HP15;refine zDu (n:=14) (S:=fun w'=>True) (ds:=[12]) #[false,false,false,false,false,false,false,false,false,false,false,false,false,false] kCU rfl rfl trivial (fun hHeld=>?_);refine with_tabW limbs_shortly.tab8 limbs_shortly.bits8 (fun HT_ HW_=>?_);generalize wr.drew=w14 at HO_6 HB GG13 HQ15 hf13_0 hx13_0 hHeld ⊢;refine zAp (i:=0) (N:=some 31) (v:=?_) (a':=?_) #[true,false,false,false,false,false,false,false,false,false,false,false,false,false] rfl rfl (zBM HT_.out kCU) (fun _ _ _ h=>h) (Or.inl ⟨kCY,?_⟩) ?_ ?_;rotate_left
          ·intro w';go_simp
           with_reducible rfl
          rotate_left
          ·simp only[Act.put,kA0,List.set_cons_zero,List.set_cons_succ,zAc,zAd];rfl
          refine zAp (i:=1) (N:=some 32) (v:=?_) (a':=?_) #[true,true,false,false,false,false,false,false,false,false,false,false,false,false] rfl rfl (zBM HT_.out kCU) (fun _ _ _ h=>h) (Or.inl ⟨kCY,?_⟩) ?_ ?_;rotate_left
          ·intro w';go_simp
           with_reducible rfl
          rotate_left
          ·simp only[Act.put,kA0,List.set_cons_zero,List.set_cons_succ,zAc,zAd];rfl
          refine zAp (i:=2) (N:=some 33) (v:=?_) (a':=?_) #[true,true,true,false,false,false,false,false,false,false,false,false,false,false] rfl rfl (zBM HT_.out kCU) (fun _ _ _ h=>h) (Or.inl ⟨kCY,?_⟩) ?_ ?_;rotate_left
          ·intro w';go_simp
           with_reducible rfl
          rotate_left
          ·simp only[Act.put,kA0,List.set_cons_zero,List.set_cons_succ,zAc,zAd];rfl
          refine zAp (i:=3) (N:=some 34) (v:=?_) (a':=?_) #[true,true,true,true,false,false,false,false,false,false,false,false,false,false] rfl rfl (zBM HT_.out kCU) (fun _ _ _ h=>h) (Or.inl ⟨kCY,?_⟩) ?_ ?_;rotate_left
          ·intro w';go_simp
           with_reducible rfl
          rotate_left
          ·simp only[Act.put,kA0,List.set_cons_zero,List.set_cons_succ,zAc,zAd];rfl
          refine zAp (i:=4) (N:=some 35) (v:=?_) (a':=?_) #[true,true,true,true,true,false,false,false,false,false,false,false,false,false] rfl rfl (zBM HT_.out kCU) (fun _ _ _ h=>h) (Or.inl ⟨kCY,?_⟩) ?_ ?_;rotate_left
          ·intro w';go_simp
           with_reducible rfl
          rotate_left
          ·simp only[Act.put,kA0,List.set_cons_zero,List.set_cons_succ,zAc,zAd];rfl
          refine zAp (i:=5) (N:=some 36) (v:=?_) (a':=?_) #[true,true,true,true,true,true,false,false,false,false,false,false,false,false] rfl rfl (zBM HT_.out kCU) (fun _ _ _ h=>h) (Or.inl ⟨kCY,?_⟩) ?_ ?_;rotate_left
          ·intro w';go_simp
           with_reducible rfl
          rotate_left
          ·simp only[Act.put,kA0,List.set_cons_zero,List.set_cons_succ,zAc,zAd];rfl
          refine zAp (i:=6) (N:=some 37) (v:=?_) (a':=?_) #[true,true,true,true,true,true,true,false,false,false,false,false,false,false] rfl rfl (zBM HT_.out kCU) (fun _ _ _ h=>h) (Or.inl ⟨kCY,?_⟩) ?_ ?_;rotate_left
          ·intro w';go_simp
           with_reducible rfl
          rotate_left
          ·simp only[Act.put,kA0,List.set_cons_zero,List.set_cons_succ,zAc,zAd];rfl
          refine zAp (i:=7) (N:=some 38) (v:=?_) (a':=?_) #[true,true,true,true,true,true,true,true,false,false,false,false,false,false] rfl rfl (zBM HT_.out kCU) (fun _ _ _ h=>h) (Or.inl ⟨kCY,?_⟩) ?_ ?_;rotate_left
          ·intro w';go_simp
           with_reducible rfl
          rotate_left
          ·simp only[Act.put,kA0,List.set_cons_zero,List.set_cons_succ,zAc,zAd];rfl
          refine zAp (i:=8) (N:=some 39) (v:=?_) (a':=?_) #[true,true,true,true,true,true,true,true,true,false,false,false,false,false] rfl rfl (zBM HT_.out kCU) (fun _ _ _ h=>h) (Or.inl ⟨kCY,?_⟩) ?_ ?_;rotate_left
          ·intro w';go_simp
           with_reducible rfl
          rotate_left
          ·simp only[Act.put,kA0,List.set_cons_zero,List.set_cons_succ,zAc,zAd];rfl
          refine zAp (i:=9) (N:=some 40) (v:=?_) (a':=?_) #[true,true,true,true,true,true,true,true,true,true,false,false,false,false] rfl rfl (zBM HT_.out kCU) (fun _ _ _ h=>h) (Or.inl ⟨kCY,?_⟩) ?_ ?_;rotate_left
          ·intro w';go_simp
           with_reducible rfl
          rotate_left
          ·simp only[Act.put,kA0,List.set_cons_zero,List.set_cons_succ,zAc,zAd];rfl
          refine zAp (i:=10) (N:=some 41) (v:=?_) (a':=?_) #[true,true,true,true,true,true,true,true,true,true,true,false,false,false] rfl rfl (zBM HT_.out kCU) (fun _ _ _ h=>h) (Or.inl ⟨kCY,?_⟩) ?_ ?_;rotate_left
          ·intro w';go_simp
           with_reducible rfl
          rotate_left
          ·simp only[Act.put,kA0,List.set_cons_zero,List.set_cons_succ,zAc,zAd];rfl
          refine zAp (i:=11) (N:=some 42) (v:=?_) (a':=?_) #[true,true,true,true,true,true,true,true,true,true,true,true,false,false] rfl rfl (zBM HT_.out kCU) (fun _ _ _ h=>h) (Or.inl ⟨kCY,?_⟩) ?_ ?_;rotate_left
          ·intro w';go_simp
           with_reducible rfl
          rotate_left
          ·simp only[Act.put,kA0,List.set_cons_zero,List.set_cons_succ,zAc,zAd];rfl
          refine last_ (i:=12) (N:=none) #[true,true,true,true,true,true,true,true,true,true,true,true,true,false] rfl rfl (one_of HT_.out kCU) kCW (fun K hK=>?_);refine skip_ (w1:=?_) kCY rfl ?_ ?_;rotate_left
          ·go_simp;rfl
          refine hK.out _ _ ?_;clear hK K;refine zAp (i:=13) (N:=some 7) (v:=?_) (a':=?_) #[true,true,true,true,true,true,true,true,true,true,true,true,true,true] rfl rfl (zBM HT_.out kCU) (fun _ _ _ h=>h) (Or.inl ⟨kCY,?_⟩) ?_ ?_;rotate_left
          ·intro w';go_simp
           with_reducible rfl
          rotate_left
          ·simp only[Act.put,kA0,List.set_cons_zero,List.set_cons_succ,zAc,zAd];rfl
          refine done_ (done_of HT_.out kCU) ?_
          try go_wp2
          go_roundg k1
          case measure=>have:=HK1.out;omega
          case rel=>exact⟨(y174),(Int.tmod (IntKind.u64.wrap ((IntKind.u64.wrap (x7_1*1000000000))+(IntKind.u64.wrap (rd l0 (ji8))))) (IntKind.u64.wrap (a1))),(wrap64 (x15_1+1)),(by first | rfl | (simp;done) | (simp only[← hji8]<;>(first | rfl | simp)) | (simp[*];done)),kD6,H',⟨by have:=HK1.out;omega⟩,⟨by (with_reducible repeat (first | apply Kd.R_alloc | apply Kd.R_drewN | apply Kd.R_drew));exact HQ15.out⟩,⟨by repeat (first | (with_reducible first | exact HB.out | apply zAa | apply zA3 | apply zAb | refine zBa ?_ GB13.out) | exact HB.out)⟩⟩
         ·rw[kA9 c12] at H;exact absurd H kCV
       ·rw[kA9 c10] at H;exact absurd H kCV
      ·rw[kA9 c9] at H;exact absurd H kCV
     ·rw[kA9 c7] at H;have c7b0:decide (x15_1<(l0.length:Int))=false:=kA8 c7;clear c7;simp only[Option.some.injEq,Prod.mk.injEq] at H;obtain⟨rfl,rfl⟩:=H;go_wp2
      go_ret2
      exact⟨_,by first | rfl | (simp[zAB,zAA]<;>rfl) | (simp[*,zAB,zAA]<;>rfl),by (with_reducible repeat (first | apply Kd.R_alloc | apply Kd.R_drewN | apply Kd.R_drew));exact HO_6.out,kD5⟩
  ·rw[kA9 c4] at H;exact absurd H kCV
 ·rw[kA9 c3] at H;exact absurd H kCV
end
end Go.Proofs.YtjaobihcdkjmbaaGreatDoor.PReadTokens
end
section
namespace Go.Proofs.YtjaobihcdkjmbaaGreatDoor
open Go.RowKit Go.Proofs.YtjaobihcdkjmbaaGreatDoorW.PrintWords Go.Proofs.YtjaobihcdkjmbaaGreatDoor.PReadTokens
theorem part270_0 (a b:Int) (w:World):(part 270 #[.int .u32 a,.int .u32 b] (0*Tryz.prog.cellsOf 270)).run Tryz.prog w=.ok (.int .u32 a) w:=kCU
theorem part270_1 (a b:Int) (w:World):(part 270 #[.int .u32 a,.int .u32 b] (1*Tryz.prog.cellsOf 270)).run Tryz.prog w=.ok (.int .u32 b) w:=kCU
theorem part270_2 (a b:Int) (w:World):(part 270 #[.int .u32 a,.int .u32 b] (Tryz.prog.cellsOf 270)).run Tryz.prog w=.ok (.int .u32 b) w:=kCU
theorem eq309 (a b c d:Int) (w:World):(Op.equalIn 10000 309 (.agg #[.int .u32 a,.int .u32 b]) (.agg #[.int .u32 c,.int .u32 d])).run Tryz.prog w=.ok (a==c&&b==d) w:=by
 obtain⟨i,hi⟩:=kC3.1 (show (Tryz.prog.info? 270).isSome=true by kernel_rfl);have h:=run_equalIn_array (P:=Tryz.prog) w 9999 #[.int .u32 a,.int .u32 b] #[.int .u32 c,.int .u32 d] Tryz.underlying309 hi;have h0:∀x y:Int,(Op.equalIn 9999 270 (.int .u32 x) (.int .u32 y)).run Tryz.prog w=.ok (x==y) w:=fun x y=>run_equalIn_int w 9998 270 .u32 .u32 x y Tryz.underlying270
 refine h.trans ?_;show (Op.eqItems 9999 270 (Tryz.prog.cellsOf 270) _ _ [0,1]).run Tryz.prog w=_;simp only[Op.eqItems,kCd,part270_0,part270_1,Result.andThen_ok,h0]
 cases hx:(a==c)<;>cases hy:(b==d)<;>simp[part270_2,h0,hy]
def cmpI (a b:Int):Int:=if a<b then -1 else if a > b then 1 else 0
theorem cmp32 (a b:Int) (w:World):Calls Tryz.prog 264 #[.int .u32 a,.int .u32 b] w fun e w'=>e=.returned (.int .i64 (cmpI a b))∧∃n,w'=w.drewN n :=
 (cmp_Compare_uint32.calls a b (cmpI a b) w (by
  have h1:cmp_isNaN_uint32.f a=some false:=by unfold cmp_isNaN_uint32.f;simp
  have h2:cmp_isNaN_uint32.f b=some false:=by unfold cmp_isNaN_uint32.f;simp
  unfold cmp_Compare_uint32.f cmpI;rw[h1,h2];by_cases hlt:a<b
  ·simp[hlt]
  ·by_cases hgt:a > b
   ·simp[hlt,hgt]
   ·simp[hlt,hgt])).mono fun _ _ ⟨h1,h2⟩=>⟨h1,h2.out⟩
abbrev U32:Kd Int:=Kd.int .u32
theorem zE0 {w:World} {A:Option Addr} {l:List Int} (h:U32.C w A l.length l) (i:Nat) (hi:i<l.length):∃ad,A=some ad∧w.cell? (ad.add i)=some (.int .u32 l[i]):=by
 obtain⟨ad,h1,h2⟩:=Kd.at_int h i kCT kCT;refine⟨ad,h1,?_⟩;have e:rd l (i:Int)=l[i]:=by unfold rd;simp[hi]
 rw[e] at h2;exact h2
theorem few_copy (l:List Int) (A:Option Addr) (c:Nat) (X:World) (B:Nat) (hB:X.heap[B]?=some (.cells #[.int .u32 0,.int .u32 0] 309 (0,0))) (hC:U32.C X A l.length l) :
  ∃Y n,(Builtin.copy_ #[232,232] 3 #[.slice (some ⟨B,0,none⟩) 2 2,.slice A l.length c]).run Tryz.prog X=.ok (.int .i64 n) Y∧Y.heap[B]?=some (.cells #[.int .u32 (l.getD 0 0),.int .u32 (l.getD 1 0)] 309 (0,0))∧X.grownBy Y (some B):=by
 have hi:(Tryz.prog.info? 270).map (·.size)=some 1:=kCU
 have b0:=zA1 hB 0;have b1:=zA1 hB 1;have f0:=zA2 hB 0;have f1:=zA2 hB 1
 match l,hC with
 | [],hC =>
  exact⟨X,0,run_copy_none X 232 232 3 270 _ A 2 2 0 c Tryz.underlying232 hi rfl,hB,kAF _ _⟩
 | [a],hC =>
  obtain⟨ad,rfl,h0⟩:=zE0 hC 0 kCV;refine⟨X.setCells B 0 [.int .u32 a],1,run_copy_cells X 232 232 3 270 B 0 2 2 ad 1 c [.int .u32 a] Tryz.underlying232 hi rfl (fun j v hv=>?_) (fun j hj=>?_) (fun j hj=>?_) kDm,zA7 hB 0 _,kAf _ _ _ _⟩
  ·match j,hv with
   | 0,hv=>simp at hv;rw[← hv];exact h0
  ·match j,hj with
   | 0,_=>rw[b0];rfl
  ·match j,hj with
   | 0,_=>exact f0
 | a :: b :: r,hC =>
  obtain⟨ad,rfl,h0⟩:=zE0 hC 0 kCV;obtain⟨ad2,h2,h1⟩:=zE0 hC 1 kCV;obtain rfl:ad=ad2:=by injection h2
  refine⟨X.setCells B 0 [.int .u32 a,.int .u32 b],2,run_copy_cells X 232 232 3 270 B 0 2 2 ad _ c [.int .u32 a,.int .u32 b] Tryz.underlying232 hi (by simp[Nat.min_def]) (fun j v hv=>?_) (fun j hj=>?_) (fun j hj=>?_) kDm,zA7 (zA7 hB 0 _) 1 _,kA6 (kAf _ _ _ _) (kAf _ _ _ _)⟩
  ·match j,hv with
   | 0,hv=>simp at hv;rw[← hv];exact h0
   | 1,hv=>simp at hv;rw[← hv];exact h1
  ·match j,hj with
   | 0,_=>rw[b0];rfl
   | 1,_=>rw[b1];rfl
  ·match j,hj with
   | 0,_=>exact f0
   | 1,_=>exact f1
theorem few_calls (s:Int) (l:List Int) (A:Option Addr) (c:Nat) (w:World) (hC:U32.C w A l.length l) (hl:l.length≤1000000) :
  Calls Tryz.prog 262 #[.agg #[.int .i64 s,.slice A l.length c]] w fun e w'=>e=.returned (.tuple #[.agg #[.int .u32 (l.getD 0 0),.int .u32 (l.getD 1 0)],.bool (decide (l.length≤2))])∧Below w.heap.size w w':=by
 go_enter Tryz.func262,Tryz.ntmps262;go_wp2_with fail;obtain⟨X,hX⟩:∃X,X=((w.alloc (.cells #[.int .i64 s,.slice A l.length c] 234)).alloc (.cells #[.int .u32 0,.int .u32 0] 309)).alloc (.cells #[.int .u32 0,.int .u32 0] 309):=⟨_,rfl⟩;have h0:X.heap[w.heap.size]?=some (.cells #[.int .i64 s,.slice A l.length c] 234 (0,0)):=by rw[hX];exact (kA4 _ _ _ kCX).trans ((kA4 _ _ _ kCV).trans (zA4 w _))
 have h1:X.heap[w.heap.size+1]?=some (.cells #[.int .u32 0,.int .u32 0] 309 (0,0)):=by rw[hX];exact (kA4 _ _ _ kCV).trans (zAu _ _ _ kCV)
 have h2:X.heap[w.heap.size+1+1]?=some (.cells #[.int .u32 0,.int .u32 0] 309 (0,0)):=by rw[hX];exact zAu _ _ _ kCV
 have hb:Below w.heap.size w X:=by rw[hX];exact (((kA3 _ w).alloc (kA2 _) _).alloc kCV _).alloc kCX _
 rw[← hX];clear hX;obtain⟨Y,n,hcp,hy,hg⟩:=few_copy l A c X.drew _ h2 (Kd.C_below hC hb.drew);have c0:=zA1 h0 0;have c1:=zA1 h0 1;have k0:=(hg.block w.heap.size (zA5 h0) kCZ).trans h0;have k1:=(hg.block (w.heap.size+1) (zA5 h1) kCZ).trans h1;have hb2:Below w.heap.size w Y:=hb.drew.grown hg hb.size (fun k e=>by injection e with e;omega);obtain⟨x0,hx0⟩:∃x,x=l.getD 0 0:=⟨_,rfl⟩;obtain⟨x1,hx1⟩:∃x,x=l.getD 1 0:=⟨_,rfl⟩;rw[← hx0,← hx1] at hy;replace hx0:=kA1 hx0;replace hx1:=kA1 hx1;have hdec:decide ((l.length:Int)≤2)=decide (l.length≤2):=kCX
 replace hdec:=kA1 hdec;go_still_tail 3,kCU
 repeat still_step
 try refine kCy ?_
 change wpList _ _ _ _ _ X.drew;go_wp2;have d1:=zA1 k0 1;have e0:=zA1 hy 0;have e1:=zA1 hy 1;have a0:=zA1 k1 0;have a1:=zA1 k1 1;have f0:=zA2 k1 0;have f1:=zA2 k1 1;clear hcp h0 h1 h2 hb hg c0 c1
 go_region
 all_goals go_wp2
 all_goals
  exact kAi (results_ct Tryz.results262 _ _ (w.heap.size+1) 309 _ (0,0) _ rfl (zA9 (kA3 _ _).drew (zBP _ _ k1)) Tryz.underlying309 rfl size309) rfl ⟨by rw[show x0=_ from hx0,show x1=_ from hx1,← show decide ((l.length:Int)≤2)=decide (l.length≤2) from hdec];rfl,((hb2.setCell (p:=⟨w.heap.size+1,0,none⟩) kCV _).setCell (p:=⟨w.heap.size+1,1,none⟩) kCV _).drew⟩
def val:List Int→Int
 | []=>0
 | x :: r=>x+1000000000*val r
def Limb (l:List Int):Prop:=∀x∈l,0≤x∧x<1000000000
theorem zED (a b:List Int):val (a++b)=val a+1000000000 ^ a.length*val b:=by
 induction a with
 | nil=>simp[val]
 | cons x r ih=>simp only[List.cons_append,val,ih,List.length_cons,kBB];rw[kBs,Int.add_assoc,← kAZ,kBe (1000000000 ^ r.length)]
theorem zBj (n:Nat):(0:Int)<1000000000 ^ n:=Int.pow_pos kCT
theorem pow9_le {i j:Nat} (h:i≤j):(1000000000:Int) ^ i≤1000000000 ^ j:=by
 obtain⟨k,rfl⟩:∃k,j=i+k:=⟨j-i,kCT⟩
 induction k with
 | zero=>simp
 | succ k ih =>
  have:=ih kCT;have h0:(0:Int)<1000000000 ^ (i+k):=Int.pow_pos kCT;rw[← kBM,kBB];omega
theorem Limb.tail {x:Int} {r:List Int} (h:Limb (x :: r)):Limb r:=fun y hy=>h y (kAK _ hy)
theorem Limb.head {x:Int} {r:List Int} (h:Limb (x :: r)):0≤x∧x<1000000000:=h x (kAJ ..)
theorem zAT {l:List Int} (h:Limb l):0≤val l:=by
 induction l with
 | nil=>simp[val]
 | cons x r ih=>have:=ih h.tail;have:=h.head;simp only[val];omega
theorem zDY {l:List Int} (h:Limb l):val l<1000000000 ^ l.length:=by
 induction l with
 | nil=>simp[val]
 | cons x r ih=>have:=ih h.tail;have:=h.head;simp only[val,List.length_cons,kBB];omega
theorem Limb.take {l:List Int} (h:Limb l) (n:Nat):Limb (l.take n):=fun x hx=>h x (kCl hx)
theorem Limb.app {a b:List Int} (h:Limb a) (h2:Limb b):Limb (a++b):=fun x hx=>by
 rcases kC2.1 hx with h' | h'
 ·exact h x h'
 ·exact h2 x h'
def Last (l:List Int):Prop:=∀i (h:i<l.length),l.length=i+1→l[i]≠0
theorem val_ge {l:List Int} (h:Limb l) (hl:Last l) (hn:l≠[]):1000000000 ^ (l.length-1)≤val l:=by
 have hp:0<l.length:=List.length_pos_iff.2 hn;have e:l=l.take (l.length-1)++[l[l.length-1]]:=by
  have:=kBC (l.length-1) l;rw[kAr kCT] at this;rw[show l.length-1+1=l.length from by omega,kCJ] at this;exact this.symm
 have h1:=hl (l.length-1) kCT kCT;have h2:=h _ (kAA (show l.length-1<l.length by omega));generalize l[l.length-1]=x at *;have h3:=zAT (h.take (l.length-1));have e2:=congrArg val e;rw[zED] at e2;rw[e2,kAh,kAU kCT];have h4:(1:Int)≤x:=kCT
 have h5:=kAD h4 (kBf (zBj (l.length-1)));simp only[val] at h5⊢;rw[kCs,kCF];omega
theorem zEC {a b:List Int} (ha:Limb a) (hb:Limb b) (hl:Last b) (h:a.length<b.length):val a<val b:=by
 have h1:=zDY ha;have h2:=val_ge hb hl (by intro e;subst e;simp at h);have h3:(1000000000:Int) ^ a.length≤1000000000 ^ (b.length-1):=pow9_le kCT;omega
theorem val_lt_top {a b:List Int} (ha:Limb a) (hb:Limb b) (i:Nat) (h1:i<a.length) (h2:i<b.length) (hd:a.drop (i+1)=b.drop (i+1)) (hlt:a[i]<b[i]):val a<val b:=by
 have ea:=congrArg val (kBC i a);have eb:=congrArg val (kBC i b);rw[zED,kAr h1,val,kAh,kAU kCT] at ea;rw[zED,kAr h2,val,kAh,kAU kCT] at eb;rw[← ea,← eb,hd];have h3:=zDY (ha.take i);have h4:=zAT (hb.take i);rw[kAh,kAU kCT] at h3;generalize val (List.drop (i+1) b)=t at *;have h5:a[i]+1000000000*t+1≤b[i]+1000000000*t:=kCT
 have h6:=kAD h5 (kBf (zBj i));rw[kBs _ _ 1,kCN] at h6;omega
theorem val_two {l:List Int} (h:l.length≤2):val l=l.getD 0 0+1000000000*l.getD 1 0:=by
 match l,h with
 | [],_=>simp[val]
 | [a],_=>simp[val]
 | [a,b],_=>simp[val]
theorem cmp64 (a b:Int) (w:World):Calls Tryz.prog 263 #[.int .i64 a,.int .i64 b] w fun e w'=>e=.returned (.int .i64 (cmpI a b))∧∃n,w'=w.drewN n :=
 (cmp_Compare_int.calls a b (cmpI a b) w (by
  have h1:cmp_isNaN_int.f a=some false:=by unfold cmp_isNaN_int.f;simp
  have h2:cmp_isNaN_int.f b=some false:=by unfold cmp_isNaN_int.f;simp
  unfold cmp_Compare_int.f cmpI;rw[h1,h2];by_cases hlt:a<b
  ·simp[hlt]
  ·by_cases hgt:a > b
   ·simp[hlt,hgt]
   ·simp[hlt,hgt])).mono fun _ _ ⟨h1,h2⟩=>⟨h1,h2.out⟩
theorem zCf {a b:Int} (h:a<b):cmpI a b=-1:=by unfold cmpI;simp[h]
theorem zCu {a b:Int} (h:b<a):cmpI a b=1:=by unfold cmpI;rw[kA9 kCT,kAa h]
theorem zCr (a:Int):cmpI a a=0:=by unfold cmpI;simp
theorem cmpI_zero {a b:Int} (h:cmpI a b=0):a=b:=by
 unfold cmpI at h;split at h
 ·omega
 ·split at h<;>omega
theorem val_cmp {a b:List Int} (ha:Limb a) (hb:Limb b) (i:Nat) (h1:i<a.length) (h2:i<b.length) (hd:a.drop (i+1)=b.drop (i+1)) (hne:cmpI a[i] b[i]≠0):cmpI (val a) (val b)=cmpI a[i] b[i]:=by
 rcases kB8 a[i] b[i] with h | h | h
 ·rw[zCf h,zCf (val_lt_top ha hb i h1 h2 hd h)]
 ·rw[h,zCr] at hne;exact absurd rfl hne
 ·rw[zCu h,zCu (val_lt_top hb ha i h2 h1 hd.symm h)]
theorem val_cmp_len {a b:List Int} (ha:Limb a) (hb:Limb b) (la:Last a) (lb:Last b) (h:a.length≠b.length):cmpI (a.length:Int) (b.length:Int)=cmpI (val a) (val b):=by
 rcases Nat.lt_or_gt_of_ne h with h | h
 ·rw[zCf kCT,zCf (zEC ha hb lb h)]
 ·rw[zCu kCT,zCu (zEC hb ha la h)]
theorem size_list (s t:Int) (l m:List Int) (A B:Option Addr) (c d:Nat) (w:World) (hl:l.length≤1000) (hm:m.length≤1000) (hL:U32.C w A l.length l) (hM:U32.C w B m.length m)
  (ll:Limb l) (lm:Limb m) (al:Last l) (am:Last m) :
  Calls Tryz.prog 234 #[.agg #[.int .i64 s,.slice A l.length c],.agg #[.int .i64 t,.slice B m.length d]] w fun e w'=>e=.returned (.int .i64 (cmpI (val l) (val m)))∧Below w.heap.size w w':=by
 have hb0:Below w.heap.size w ((w.alloc (.cells #[.int .i64 s,.slice A l.length c] 234)).alloc (.cells #[.int .i64 t,.slice B m.length d] 234)):=((kA3 _ w).alloc (kA2 _) _).alloc kCV _;have h0:((w.alloc (.cells #[.int .i64 s,.slice A l.length c] 234)).alloc (.cells #[.int .i64 t,.slice B m.length d] 234)).heap[w.heap.size]?=some (.cells #[.int .i64 s,.slice A l.length c] 234 (0,0)):=(kA4 _ _ _ kCV).trans (zA4 w _);have h1:((w.alloc (.cells #[.int .i64 s,.slice A l.length c] 234)).alloc (.cells #[.int .i64 t,.slice B m.length d] 234)).heap[w.heap.size+1]?=some (.cells #[.int .i64 t,.slice B m.length d] 234 (0,0)):=zAu _ _ _ kCV;obtain⟨r,hr⟩:∃r,r=cmpI (val l) (val m):=⟨_,rfl⟩;rw[← hr];replace hr:=kA1 hr;replace ll:=kA1 ll;replace lm:=kA1 lm;replace al:=kA1 al;replace am:=kA1 am;replace hL:=kA1 hL;replace hM:=kA1 hM;have hf:=few_calls s l A c _ (Kd.C_below hL.out hb0) kCT;obtain⟨x0,hx0⟩:∃x,x=l.getD 0 0:=⟨_,rfl⟩;obtain⟨x1,hx1⟩:∃x,x=l.getD 1 0:=⟨_,rfl⟩;obtain⟨y0,hy0⟩:∃x,x=m.getD 0 0:=⟨_,rfl⟩;obtain⟨y1,hy1⟩:∃x,x=m.getD 1 0:=⟨_,rfl⟩;obtain⟨b1,hb1'⟩:∃b,b=decide (l.length≤2):=⟨_,rfl⟩;obtain⟨b2,hb2'⟩:∃b,b=decide (m.length≤2):=⟨_,rfl⟩;rw[← hx0,← hx1,← hb1'] at hf;have hf2:=fun W h=>few_calls t m B d W h kCT
 rw[← hy0,← hy1,← hb2'] at hf2;replace hb1':=kA1 hb1';replace hb2':=kA1 hb2';replace hx0:=kA1 hx0;replace hx1:=kA1 hx1;replace hy0:=kA1 hy0;replace hy1:=kA1 hy1;replace hf2:=kA1 hf2;go_enter Tryz.func234,Tryz.ntmps234
 go_upto_if 17 with (fail)
 refine hf.mono ?_;rintro e w1 ⟨rfl,hb1⟩;have hb01:=hb0.trans (hb1.mono kCX);have k0:=zA9 hb1 h0;have k1:=zA9 hb1 h1;clear hf h0 h1 hb0 hb1
 go_upto_if 17 with (fail)
 have hba:=hb01.alloc hb01.size (.cells #[.int .u32 x0,.int .u32 x1] 309);have j0:=(kA4 w1 (.cells #[.int .u32 x0,.int .u32 x1] 309) _ (zA5 k0)).trans k0;have j1:=(kA4 w1 (.cells #[.int .u32 x0,.int .u32 x1] 309) _ (zA5 k1)).trans k1;have jn:=zA4 w1 (.cells #[.int .u32 x0,.int .u32 x1] 309);have hsz:=hb01.size;clear hb01 k0 k1;generalize hW:w1.alloc (.cells #[.int .u32 x0,.int .u32 x1] 309)=W at *;generalize hS:w1.heap.size=S at *;clear hW hS;go_cut [] (fun wc=>(Below w.heap.size w wc)∧Hid (wc.heap[w.heap.size]?=some (.cells #[.int .i64 s,.slice A l.length c] 234 (0,0)))∧Hid (wc.heap[w.heap.size+1]?=some (.cells #[.int .i64 t,.slice B m.length d] 234 (0,0))))
 case first =>
  cases b1 with
  | false =>
   go_wp2
   go_meet
   exact⟨hba,kA1 j0,kA1 j1⟩
  | true =>
   have e0:=zA1 j1 0;have e1:=zA1 j1 1;have hf3:=hf2.out W (Kd.C_below hM.out hba);go_wp2_with fail;refine hf3.mono ?_;rintro e w2 ⟨rfl,hb2⟩;have g0:=zA9 hb2 j0;have g1:=zA9 hb2 j1;have gn:=zA9 hb2 jn;have hbb:=hba.trans (hb2.mono (by exact hba.size));have hbc:=hbb.alloc hbb.size (.cells #[.int .u32 y0,.int .u32 y1] 309);have f0:=(kA4 w2 (.cells #[.int .u32 y0,.int .u32 y1] 309) _ (zA5 g0)).trans g0;have f1:=(kA4 w2 (.cells #[.int .u32 y0,.int .u32 y1] 309) _ (zA5 g1)).trans g1;clear hf3 hb2 g0 j0 j1 jn hba e0 e1
   cases b2 with
   | false =>
    go_wp2
    go_meet
    exact⟨hbc,kA1 f0,kA1 f1⟩
   | true =>
    have heq:=eq309 x0 x1 y0 y1;have gn2:=(kA4 w2 (.cells #[.int .u32 y0,.int .u32 y1] 309) _ (zA5 gn)).trans gn;have gm:=zA4 w2 (.cells #[.int .u32 y0,.int .u32 y1] 309);have a0:=zA1 gn 0;have a1:=zA1 gn 1;have b0:=zA1 gm 0;have b1:=zA1 gm 1;have ln:=zA5 gn;clear gn gn2 gm;by_cases hxy:x0=y0∧x1=y1
    ·have hE:(x0==y0&&x1==y1)=true:=by rw[hxy.1,hxy.2];simp
     have hR:Hid (r=0):=kA1 (by
      have p1:=hb1'.out;have p2:=hb2'.out;rw[hr.out,val_two (kAl p1.symm),val_two (kAl p2.symm),← hx0.out,← hx1.out,← hy0.out,← hy1.out,hxy.1,hxy.2,zCr])
     rw[hE] at heq;clear hxy hE;go_wp2;go_ret;exact⟨by rw[hR.out];rfl,hbc⟩
    ·have hE:(x0==y0&&x1==y1)=false:=by
      rw[← Bool.not_eq_true];intro h;simp at h;exact hxy h
     rw[hE] at heq;clear hxy hE;go_wp2
     go_meet
     exact⟨hbc,kA1 f0,kA1 f1⟩
 case rest =>
  obtain⟨hBB,k0,k1⟩:=hcut;have c0:=zA1 k0.out 1;have c1:=zA1 k1.out 1;clear hf2 jn j0 j1 hba;by_cases hne:l.length=m.length
  ·have hlm:((l.length:Int) != (m.length:Int))=false:=by simp[hne]
   replace hne:=kA1 hne;go_wp2_with fail;clear c0 c1;go_loopg [46] l.length (fun gk i wr=>gk≤l.length∧i=.int .i64 ((l.length:Int)-(gk:Int))∧Below w.heap.size w wr∧Hid (wr.heap[w.heap.size]?=some (.cells #[.int .i64 s,.slice A l.length c] 234 (0,0)))∧Hid (wr.heap[w.heap.size+1]?=some (.cells #[.int .i64 t,.slice B m.length d] 234 (0,0)))∧Hid (l.drop gk=m.drop gk))
   case atStart=>exact⟨kA2 _,kCV,hBB,k0,k1,kA1 (by rw[kCJ,hne.out,kCJ])⟩
   case round =>
    obtain⟨hkl,rfl,hBr,q0,q1,HD⟩:=hrel;have c0:=zA1 q0.out 1;have c1:=zA1 q1.out 1
    cases gk with
    | zero =>
     have hR:Hid (r=0):=kA1 (by
      have:=HD.out;rw[kBZ,kBZ] at this;rw[hr.out,this,zCr])
     go_wp2;go_ret;exact⟨by rw[hR.out];rfl,hBr⟩
    | succ k =>
     have hk1:k<l.length:=kCT
     have hk2:k<m.length:=by have:=hne.out;omega
     obtain⟨ad,rfl,hc1⟩:=zE0 (Kd.C_below hL.out hBr) k hk1;obtain⟨bd,rfl,hc2⟩:=zE0 (Kd.C_below hM.out hBr) k hk2;obtain⟨q,hq⟩:∃q,q=cmpI l[k] m[k]:=⟨_,rfl⟩;have hcm:=cmp32 l[k] m[k];rw[← hq] at hcm;have hix:(l.length:Int)-1-((l.length:Int)-((k:Int)+1))=(k:Int):=kCT
     replace hix:=kA1 hix;by_cases hq0:q=0
     ·subst hq0;have HD2:Hid (l.drop k=m.drop k):=kA1 (by rw[kAr hk1,kAr hk2,HD.out,cmpI_zero hq.symm]);clear hq;generalize l[k]=xk at *;generalize m[k]=yk at *;go_wp2;simp only[hix.out]
      go_quiet ((go_at_call 264;exact kCE (hcm _)))
      go_wp2;go_roundg k
      case measure=>omega
      case rel=>exact⟨kCT,by go_num,zA3 hBr _,q0,q1,HD2⟩
     ·have hqb:(q != 0)=true:=by simp[hq0]
      have hR:Hid (r=q):=kA1 (by rw[hr.out,hq];exact val_cmp ll.out lm.out k hk1 hk2 HD.out (by rw[← hq];exact hq0));clear hq0 hq;generalize l[k]=xk at *;generalize m[k]=yk at *;go_wp2;simp only[hix.out]
      go_quiet ((go_at_call 264;exact kCE (hcm _)))
      go_wp2;go_ret;exact⟨by rw[hR.out];rfl,zA3 hBr _⟩
  ·have hlm:((l.length:Int) != (m.length:Int))=true:=kCX
   have hcm:=cmp64 l.length m.length;rw[val_cmp_len ll.out lm.out al.out am.out hne,← hr.out] at hcm;replace hne:=kA1 hne;go_wp2_with fail;refine (hcm _).mono ?_;rintro e w3 ⟨rfl,n,rfl⟩;go_wp2;go_ret;exact⟨rfl,zA3 hBB _⟩
end Go.Proofs.YtjaobihcdkjmbaaGreatDoor
end
