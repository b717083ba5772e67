/- The law ReadPlace answers true for every argument; a part of its proof. -/
import Derived.Test.YtjaobihcdkjmbaaGreatDoorCa
import Derived.Test.YtjaobihcdkjmbaaGreatDoorCb
import Derived.Test.YtjaobihcdkjmbaaGreatDoorC0
import Derived.Test.YtjaobihcdkjmbaaGreatDoorC7
import Derived.Test.YtjaobihcdkjmbaaGreatDoorC8
import Derived.Test.YtjaobihcdkjmbaaGreatDoorC9
set_option linter.unusedVariables false
set_option linter.unusedSimpArgs false
namespace Go.Proofs.YtjaobihcdkjmbaaGreatDoor.PReadTokens
end Go.Proofs.YtjaobihcdkjmbaaGreatDoor.PReadTokens
namespace Go.Proofs.YtjaobihcdkjmbaaGreatDoorW.PrintWords
end Go.Proofs.YtjaobihcdkjmbaaGreatDoorW.PrintWords
set_option maxRecDepth 100000
set_option maxHeartbeats 4000000
section
namespace Go.Proofs.YtjaobihcdkjmbaaGreatDoor
open Go.RowKit Go.Proofs.YtjaobihcdkjmbaaGreatDoorW.PrintWords Go.Proofs.YtjaobihcdkjmbaaGreatDoor.PReadTokens
section
attribute [local go_sem] Oper.semAt_some
theorem zAB (w:World) (o:Obj) (k:Nat) (h:k=w.heap.size):(w.alloc o).heap[k]?=some o:=by rw[h];exact zA4 w o
def zDR (ts:List S47):Option S47:=ts.find? (fun t=>t.f0 == -1)
theorem badOf_none {ts:List S47} (h:∀t∈ts,(t.f0 == -1)=false):zDR ts=none:=by
 unfold zDR;rw[List.find?_eq_none];intro t ht;rw[h t ht];simp
theorem badOf_some {init rest:List S47} {t:S47} (h:∀t∈init,(t.f0 == -1)=false) (ht:(t.f0 == -1)=true):zDR (init++t :: rest)=some t:=by
 unfold zDR;rw[List.find?_append,show init.find? (fun t=>t.f0 == -1)=none from badOf_none h,List.find?_cons,ht];rfl
def zFe (s:ByteArray) (w:World) (e:Ending) (w':World):Prop :=
 match zDR (zA6 s) with
 | none=>∃v,e=.returned (.tuple #[v,.int .i64 0,.int .i64 0])∧zAT w' w.heap.size v (zA6 s)∧Below w.heap.size w w'
 | some t=>e=.returned (.tuple #[.slice none 0 0,.int .i64 t.f2,.int .i64 1])∧Below w.heap.size w w'
theorem results15 {tmps:Array Value} {W:World} {a b c:Addr} {u v x:Value} (h2:tmps.getD 2 undef=.pointer (some a)) (h3:tmps.getD 3 undef=.pointer (some b)) (h4:tmps.getD 4 undef=.pointer (some c))
  (ha:W.cell? a=some u) (hb:W.cell? b=some v) (hc:W.cell? c=some x):(results Tryz.f15 tmps).run Tryz.prog W=.ok (.tuple #[u,v,x]) W:=by
 have e2:tmps[2]?.getD undef=.pointer (some a):=by simpa using h2
 have e3:tmps[3]?.getD undef=.pointer (some b):=by simpa using h3
 have e4:tmps[4]?.getD undef=.pointer (some c):=by simpa using h4
 simp[results,Tryz.results15,e2,e3,e4,asAddr,go_sem,ha,hb,hc]
theorem Tokens_in (n:Nat) (s:ByteArray) (hs:s.size≤2000) (w:World):CallsIn Fence.wide n Tryz.prog 15 #[.string s] w (zFe s w):=by
 have hD:Fence.wide.depth.isSome=false:=rfl;have hF53:Fence.wide.fn 53:=trivial;have hbig:decide (2000<(s.size:Int))=false:=by rw[kBw];omega
 refine kCu Tryz.func15 rfl trivial ?_ rfl;simp only[Tryz.ntmps15,kAf,List.length_cons,List.length_nil,Nat.reduceAdd,Nat.reduceSub,kAV,Array.replicate_zero,kBh,kAP,List.nil_append,List.cons_append]
 gi_wp2_with (gi_at_call 53;refine (tokens_in (n-1) s _).mono ?_;rintro e w' ⟨rfl,rfl⟩)
 clear hbig;obtain⟨W,hW⟩:∃W,W=(((((w.alloc (.cells #[.slice none 0 0] 35)).alloc (.cells #[.int .i64 0] 3)).alloc (.cells #[.int .i64 0] 36)).alloc (.cells #[.slice none 0 0] 35)).alloc (.cells #[.string s] 9)):=⟨_,rfl⟩;have hz:W.heap.size=w.heap.size+5:=by rw[hW];simp
 have hbW:Below w.heap.size w W:=by rw[hW];exact (((((kA3 _ w).alloc (kA2 _) _).alloc kCY _).alloc kCZ _).alloc kCZ _).alloc kCZ _
 have hR0:W.heap[w.heap.size]?=some (.cells #[.slice none 0 0] 35 (0,0)):=by
  rw[hW];refine (kA4 _ _ _ kDb).trans ?_;refine (kA4 _ _ _ kDb).trans ?_;refine (kA4 _ _ _ kDb).trans ?_;refine (kA4 _ _ _ kDb).trans ?_;exact zAB _ _ _ kCY
 have hR1:W.heap[w.heap.size+1]?=some (.cells #[.int .i64 0] 3 (0,0)):=by
  rw[hW];refine (kA4 _ _ _ kDb).trans ?_;refine (kA4 _ _ _ kDb).trans ?_;refine (kA4 _ _ _ kDb).trans ?_;exact zAB _ _ _ kCY
 have hR2:W.heap[w.heap.size+2]?=some (.cells #[.int .i64 0] 36 (0,0)):=by
  rw[hW];refine (kA4 _ _ _ kDb).trans ?_;refine (kA4 _ _ _ kDb).trans ?_;exact zAB _ _ _ kCY
 have hO:W.heap[w.heap.size+3]?=some (.cells #[.slice none 0 0] 35 (0,0)):=by
  rw[hW];refine (kA4 _ _ _ kDb).trans ?_;exact zAB _ _ _ kCY
 have hB:W.heap[w.heap.size+4]?=some (.cells #[.string s] 9 (0,0)):=by
  rw[hW];exact zAB _ _ _ kCY
 rw[← hW];clear hW;refine zDH (box:=⟨w.heap.size+4,0,none⟩) (s:=s)
  (fun t U=>#[Value.string s,undef,Value.pointer (some ⟨w.heap.size,0,none⟩),Value.pointer (some ⟨w.heap.size+1,0,none⟩),Value.pointer (some ⟨w.heap.size+1+1,0,none⟩),Value.pointer (some ⟨w.heap.size+1+1+1,0,none⟩),Value.pointer (some ⟨U,0,none⟩),Value.string s,
     Value.int IntKind.i64 s.size,Value.bool false,Value.string s,
     Value.func (Fn.func 87) #[] #[Value.pointer (some ⟨w.heap.size+1+1+1+1,0,none⟩)],tokV t,undef,undef,undef,undef,undef,undef,undef,undef,undef,undef])
  rfl kCW (zA1 hB 0)
  (fun pre X=>∃v,zAT X (W.heap.size+3) v pre∧(∀t∈pre,(t.f0 == -1)=false)∧X.heap[w.heap.size+3]?=some (.cells #[v] 35 (0,0))∧X.heap[w.heap.size]?=some (.cells #[.slice none 0 0] 35 (0,0)) ∧
   X.heap[w.heap.size+1]?=some (.cells #[.int .i64 0] 3 (0,0))∧X.heap[w.heap.size+2]?=some (.cells #[.int .i64 0] 36 (0,0))∧Below w.heap.size w X)
  (fun pre X=>∃init t,pre=init++[t]∧(∀t∈init,(t.f0 == -1)=false)∧(t.f0 == -1)=true∧X.heap[w.heap.size]?=some (.cells #[.slice none 0 0] 35 (0,0)) ∧
   X.heap[w.heap.size+1]?=some (.cells #[.int .i64 t.f2] 3 (0,0))∧X.heap[w.heap.size+2]?=some (.cells #[.int .i64 1] 36 (0,0))∧Below w.heap.size w X)
  ?hI ?hIx ⟨_,kCl _ _ _ _,fun t ht=>(by simp at ht),hO,hR0,hR1,hR2,hbW⟩ ?assign ?body ?done ?stop
 case hI =>
  rintro pre A B k⟨v,ho,hn,hq,h0,h1,h2,hb⟩ hk hg;exact⟨v,ho.kept kCW hg,hn,(hg.block _ (zA5 hq) kD2).trans hq,(hg.block _ (zA5 h0) kD2).trans h0,(hg.block _ (zA5 h1) kD2).trans h1,(hg.block _ (zA5 h2) kD2).trans h2,hb.grown hg hb.size (fun j e=>by injection e with e;omega)⟩
 case hIx =>
  rintro pre A B k⟨init,t,hp,hn,ht,h0,h1,h2,hb⟩ hk hg;exact⟨init,t,hp,hn,ht,(hg.block _ (zA5 h0) kD2).trans h0,(hg.block _ (zA5 h1) kD2).trans h1,(hg.block _ (zA5 h2) kD2).trans h2,hb.grown hg hb.size (fun j e=>by injection e with e;omega)⟩
 case assign =>
  intro l t A K hK;unfold tokV at hK⊢;unfold tokO at hK
  gi_wp2
  exact hK
 case body =>
  rintro pre t A W0⟨v,ho,hn,hq,h0,h1,h2,hb⟩ hrest hlt hg hz0;unfold tokV;have carry:∀{k:Nat} {o:Obj},A.heap[k]?=some o→k<w.heap.size+5→W0.heap[k]?=some o:=fun {k o} hk hlt5 =>
   (hg.block _ (by simp;have:=zA5 hk;omega) kD2).trans ((kA4 _ _ _ (by simp;have:=zA5 hk;omega)).trans ((kA4 _ _ _ (zA5 hk)).trans hk))
  have hq0:=carry hq kCW;have h00:=carry h0 kCW;have h10:=carry h1 kCW;have h20:=carry h2 kCW;have hU:W0.heap[A.heap.size+1]?=some (tokO t):=by
   have:=zA4 (A.alloc (tokO t)) (tokO t);rw[kAC] at this;exact (hg.block _ kCY kD2).trans this
  have hbelow0:=((hb.alloc kCW (tokO t)).alloc kCZ (tokO t)).grown hg kCZ (fun k e=>by injection e with e;omega);have u0:=zA1 hU 0;have u1:=zA1 hU 1;have u2:=zA1 hU 2;have HU:=kA1 hU;have Hn:=kA1 hn;have Hrest:=kA1 hrest;clear hU carry hn hrest
  cases ht:(t.f0 == -1)
  ·obtain⟨i0,hi,iz0,iz1,iz2⟩:=info_parts info47;have HO:(W0.alloc (tokO t)).ownsRow (W.heap.size+3) 47 3 v pre.length (flat pre) :=
    zAT.kept (k:=W.heap.size+1) (zAT.kept (k:=W.heap.size+1) ho kCW (kA9 (zCr A (tokO t) (tokO t) _) hg)) kCW (kAE _ _ _)
   have HN:(W0.alloc (tokO t)).heap[A.heap.size+2]?=some (.cells (tokC t).toArray 47 (0,0)):=by
    have:=zA4 W0 (tokO t);rw[hz0] at this;exact this
   have HC:∀j u,(tokC t)[j]?=some u→(W0.alloc (tokO t)).cell? ((⟨A.heap.size+2,0,none⟩:Addr).add j)=some u:=by simpa using kBK HN
   have hlen:pre.length≤s.size:=by
    obtain⟨rest,hrest⟩:=Hrest.out;have h1:=zD2 (s.size+1) s 0;unfold zA6 at hrest;rw[hrest,kAw,List.length_cons] at h1;omega
   have hzc:(Value.agg #[.int .i64 0,.string ⟨#[]⟩,.int .i64 0]).cells.size=3:=rfl;have hone:∀u∈tokC t,u.oneCell'=true:=by simp[tokC,Value.oneCell']
   have hb1:pre.length+1≤maxLen:=kDf
   have hb2:(pre.length+1)*32≤140737488355328:=kCW
   have hb3:W.heap.size+3≤(W0.alloc (tokO t)).heap.size:=kDl
   have hqlt:∀k,k<w.heap.size+5→k<(W0.alloc (tokO t)).heap.size:=fun k hk=>by rw[kAC,hz0];omega
   have hne:∀k,(k<W.heap.size+3∨A.heap.size≤k)→some k≠v.ownBlock:=fun k hk e=>by have:=kBu ho _ e.symm;omega
   have carry1:∀{k:Nat} {o:Obj},W0.heap[k]?=some o→(W0.alloc (tokO t)).heap[k]?=some o:=fun {k o} hk=>(kA4 _ _ _ (zA5 hk)).trans hk
   have q0:W0.cell? ⟨w.heap.size+1+1+1,0,none⟩=some v:=zA1 hq0 0;have q1:W0.frozen? ⟨w.heap.size+1+1+1,0,none⟩=false:=zA2 hq0 0;have H1:=kA1 HO;have H2:=kA1 HC;have HL:=kA1 hqlt;have HNE:=kA1 hne;have K0:=kA1 (carry1 h00);have K1:=kA1 (carry1 h10);have K2:=kA1 (carry1 h20);have KQ:=kA1 (carry1 hq0);clear HO HC HN hqlt hne carry1 h00 h10 h20 h0 h1 h2 hq hq0
   gi_wp2_with (gi_at_builtin;refine kC7 _ rfl _ _ 35 rfl (W.heap.size+3) 47 i0 (.agg #[.int .i64 0,.string ⟨#[]⟩,.int .i64 0]) 3 32 Tryz.underlying35 hi iz0 iz1 iz2 hzc (kCs 2) v pre.length (flat pre) rfl H1.out ⟨A.heap.size+2,0,none⟩ 1 1 (tokC t) rfl rfl H2.out hone hb1 hb2 hb3 ?_;intro v' w1 hown' hgrow _;obtain⟨Av,cv,rfl⟩:=zC5 hown';have hq1:=(hgrow.block (w.heap.size+3) (HL.out _ kCW) (HNE.out _ (.inl kCW))).trans KQ.out;have c1:w1.cell? ⟨w.heap.size+1+1+1,0,none⟩=some v:=zA1 hq1 0;have c2:w1.frozen? ⟨w.heap.size+1+1+1,0,none⟩=false:=zA2 hq1 0;have HW:=kA1 hown';have KQ1:=kA1 hq1;clear hown' hq1)
   have far:∀{k:Nat} {o:Obj} {x:Value},(W0.alloc (tokO t)).heap[k]?=some o→k<w.heap.size+3→(w1.setCell ⟨w.heap.size+1+1+1,0,none⟩ x).heap[k]?=some o:=fun {k o x} hk hlt3 =>
    (kA7 _ _ _ _ kCZ).trans ((hgrow.block _ (HL.out _ kCW) (HNE.out _ (.inl kCW))).trans hk)
   refine⟨?_,⟨.slice Av (pre.length+1) cv,?_,?_,?_,far K0.out kCW,far K1.out kCW,far K2.out kCW,?_⟩,?_,?_⟩
   ·exact ((kCC W0 (tokO t)).trans (kCg hgrow (fun j o hj ho=>by
     obtain⟨cells,hc⟩:=zDi H1.out j hj;rw[hc] at ho;cases ho;rfl))).trans (kBE _ _ _)
   ·exact zAT.kept (ts:=pre++[t]) (k:=w.heap.size+1+1+1) (by unfold zAT;rw[kAw,zG3];exact HW.out) kCW (kAh _ _ _ _)
   ·intro x hx;rcases kC4.1 hx with hx | hx
    ·exact Hn.out x hx
    ·rw[kBA.1 hx];exact ht
   ·exact zAa KQ1.out 0 _
   ·exact ((hbelow0.alloc kCW (tokO t)).grown hgrow kCZ (fun k e=>by have:=(kBu H1.out k e).1;omega)).setCell (p:=⟨w.heap.size+1+1+1,0,none⟩) kCZ _
   ·exact (kA7 _ _ _ _ kCZ).trans ((hgrow.block _ kDl (HNE.out _ (.inl kCW))).trans (kA4 _ _ _ kCW))
   ·exact (kA7 _ _ _ _ kCZ).trans ((hgrow.block _ kDl (HNE.out _ (.inr (kA2 _)))).trans (kA4 _ _ _ kCW))
  ·have a0:=zA1 h00 0;have a1:=zA1 h10 0;have a2:W0.cell? ⟨w.heap.size+1+1,0,none⟩=some (.int .i64 0):=zA1 h20 0;have b0:=zA2 h00 0;have b1:=zA2 h10 0;have b2:W0.frozen? ⟨w.heap.size+1+1,0,none⟩=false:=zA2 h20 0;have K0:=kA1 h00;have K1:=kA1 h10;have K2:=kA1 h20;clear h00 h10 h20 h0 h1 h2 hq hq0
   gi_wp2
   gi_region
   all_goals gi_wp2
   all_goals
    refine⟨?_,pre,t,rfl,Hn.out,ht,?_,?_,?_,?_⟩
    ·exact⟨kCY,fun k o hk ho=>(((kBE W0 _ _).trans (kBE _ _ _)).trans (kBE _ _ _)).same k o hk ho⟩
    ·exact (kA7 _ _ _ _ kD6).trans ((kA7 _ _ _ _ kD6).trans (zAa K0.out 0 _))
    ·exact (kA7 _ _ _ _ kD6).trans (zAa ((kA7 _ _ _ _ kD6).trans K1.out) 0 _)
    ·exact zAa ((kA7 _ _ _ _ kD6).trans ((kA7 _ _ _ _ kD6).trans K2.out)) 0 _
    ·exact ((((hbelow0.setCell (p:=⟨w.heap.size,0,none⟩) (kA2 _) _).setCell (p:=⟨w.heap.size+1,0,none⟩) kCY _).setCell (p:=⟨w.heap.size+1+1,0,none⟩) kCZ _)).drew
 case done =>
  rintro X⟨v,ho,hn,hq,h0,h1,h2,hb⟩ hdef;obtain⟨Av,cv,rfl⟩:=zC5 ho;have q0:X.cell? ⟨w.heap.size+1+1+1,0,none⟩=some (.slice Av (zA6 s).length cv):=zA1 hq 0;have a0:=zA1 h0 0;have a1:=zA1 h1 0;have a2:X.cell? ⟨w.heap.size+1+1,0,none⟩=some (.int .i64 0):=zA1 h2 0;have b0:=zA2 h0 0;have b1:=zA2 h1 0;have b2:X.frozen? ⟨w.heap.size+1+1,0,none⟩=false:=zA2 h2 0;have K0:=kA1 h0;have K1:=kA1 h1;have K2:=kA1 h2;have Hn:=kA1 hn;clear h0 h1 h2 hq hn
  gi_wp2
  have hd:(((X.setCell ⟨w.heap.size,0,none⟩ (.slice Av (zA6 s).length cv)).setCell ⟨w.heap.size+1,0,none⟩ (.int .i64 0)).setCell ⟨w.heap.size+1+1,0,none⟩ (.int .i64 0)).heap[W.heap.size]?=some (.deferred (some [])) :=
   (kA7 _ _ _ _ kCZ).trans ((kA7 _ _ _ _ kCZ).trans ((kA7 _ _ _ _ kCZ).trans hdef))
  have hbb:=((hb.setCell (p:=⟨w.heap.size,0,none⟩) (kA2 _) (.slice Av (zA6 s).length cv)).setCell (p:=⟨w.heap.size+1,0,none⟩) kCY (.int .i64 0)).setCell (p:=⟨w.heap.size+1+1,0,none⟩) kCZ (.int .i64 0);have hoo:zAT (((X.setCell ⟨w.heap.size,0,none⟩ (.slice Av (zA6 s).length cv)).setCell ⟨w.heap.size+1,0,none⟩ (.int .i64 0)).setCell ⟨w.heap.size+1+1,0,none⟩ (.int .i64 0)) (W.heap.size+3) (.slice Av (zA6 s).length cv) (zA6 s) :=
   zAT.kept (k:=w.heap.size+1+1) (zAT.kept (k:=w.heap.size+1) (zAT.kept (k:=w.heap.size) ho kCW (kAh _ _ _ _)) kCW (kAh _ _ _ _)) kCW (kAh _ _ _ _)
  have g0:=(kA7 ((X.setCell ⟨w.heap.size,0,none⟩ (.slice Av (zA6 s).length cv)).setCell ⟨w.heap.size+1,0,none⟩ (.int .i64 0)) ⟨w.heap.size+1+1,0,none⟩ (.int .i64 0) w.heap.size kD6).trans ((kA7 _ _ _ _ kD6).trans (zAa K0.out 0 _));have g1:=(kA7 ((X.setCell ⟨w.heap.size,0,none⟩ (.slice Av (zA6 s).length cv)).setCell ⟨w.heap.size+1,0,none⟩ (.int .i64 0)) ⟨w.heap.size+1+1,0,none⟩ (.int .i64 0) (w.heap.size+1) kD6).trans (zAa ((kA7 _ _ _ _ kD6).trans K1.out) 0 _);have g2:(((X.setCell ⟨w.heap.size,0,none⟩ (.slice Av (zA6 s).length cv)).setCell ⟨w.heap.size+1,0,none⟩ (.int .i64 0)).setCell ⟨w.heap.size+1+1,0,none⟩ (.int .i64 0)).heap[w.heap.size+2]?=_:=zAa ((kA7 _ _ _ _ kD6).trans ((kA7 _ _ _ _ kD6).trans K2.out)) 0 _;generalize (((X.setCell ⟨w.heap.size,0,none⟩ (.slice Av (zA6 s).length cv)).setCell ⟨w.heap.size+1,0,none⟩ (.int .i64 0)).setCell ⟨w.heap.size+1+1,0,none⟩ (.int .i64 0))=X' at *;refine⟨kCY,.inl ⟨_,_,rfl,kCc hd,?_⟩⟩;have j0:=zA1 ((kAp (w:=X') (o:=.deferred none) (r:=W.heap.size) kCW).trans g0) 0;have j1:=zA1 ((kAp (w:=X') (o:=.deferred none) (r:=W.heap.size) kCW).trans g1) 0;have j2:=zA1 ((kAp (w:=X') (o:=.deferred none) (r:=W.heap.size) kCW).trans g2) 0;refine⟨_,results15 rfl rfl rfl j0 j1 j2,?_⟩;unfold zFe;rw[badOf_none Hn.out];refine⟨_,rfl,?_,?_⟩
  ·exact zDW (zAT.kept (k:=W.heap.size) hoo kCW (zAy _ _ _)) kCW
  ·exact hbb.grown (zAy _ _ _) (by have:=hbb.size;exact this) (fun k e=>by injection e with e;omega)
 case stop =>
  rintro pre rest X hpr⟨init,t,hp,hn,ht,h0,h1,h2,hb⟩ hdef;have Hpr:=kA1 hpr;have Hp:=kA1 hp;have Hn:=kA1 hn;have Ht:=kA1 ht;have K0:=kA1 h0;have K1:=kA1 h1;have K2:=kA1 h2;clear hpr hp hn ht h0 h1 h2
  gi_wp2
  refine⟨kCY,.inl ⟨_,_,rfl,kCc hdef,?_⟩⟩;have j0:=zA1 ((kAp (w:=X) (o:=.deferred none) (r:=W.heap.size) kCW).trans K0.out) 0;have j1:=zA1 ((kAp (w:=X) (o:=.deferred none) (r:=W.heap.size) kCW).trans K1.out) 0;have j2:=zA1 ((kAp (w:=X) (o:=.deferred none) (r:=W.heap.size) kCW).trans K2.out) 0;refine⟨_,results15 rfl rfl rfl j0 j1 j2,?_⟩;unfold zFe;rw[Hpr.out,Hp.out,kCm,List.singleton_append,badOf_some Hn.out Ht.out];exact⟨rfl,hb.grown (zAy _ _ _) hb.size (fun k e=>by injection e with e;omega)⟩
theorem zFp (s:ByteArray) (hs:s.size≤2000) (w:World):Calls Tryz.prog 15 #[.string s] w (zFe s w):=kBo.1 (Tokens_in 9 s hs w)
theorem newQueue_calls (s:ByteArray) (hs:s.size≤2000) (w:World):Calls Tryz.prog 133 #[.string s] w fun e w' =>
  ∃v,e=.returned (.agg #[v,.int .i64 0,.int .i64 s.size])∧zAT w' w.heap.size v (zA6 s)∧Below w.heap.size w w':=kBo.1 (newQueue_in 9 s hs w)
theorem Tokens_large (s:ByteArray) (h:2000<s.size) (w:World):Calls Tryz.prog 15 #[.string s] w fun e w'=>e=.returned (.tuple #[.slice none 0 0,.int .i64 0,.int .i64 13])∧Below w.heap.size w w':=by
 have hbig:decide (2000<(s.size:Int))=true:=by rw[kB6];omega
 go_enter Tryz.func15,Tryz.ntmps15;go_wp2;refine kAg (results15 rfl rfl rfl (zA1 (t:=35) (cs:=#[.slice none 0 0]) ?_ 0) (zA1 (t:=3) (cs:=#[.int .i64 0]) ?_ 0) (zA1 (t:=36) (cs:=#[.int .i64 13]) ?_ 0)) rfl ⟨rfl,?_⟩
 ·exact (kA4 _ _ _ kCZ).trans ((kA4 _ _ _ kCY).trans (zA4 w _))
 ·exact (kA4 _ _ _ kCY).trans (zAB _ _ _ kCY)
 ·exact zAB _ _ _ kCY
 ·exact (((kA3 _ w).alloc (kA2 _) _).alloc kCY _).alloc kCZ _
end
end Go.Proofs.YtjaobihcdkjmbaaGreatDoor
end
