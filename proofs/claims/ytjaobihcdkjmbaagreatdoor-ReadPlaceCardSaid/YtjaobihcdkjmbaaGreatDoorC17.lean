/- The law ReadPlace answers true for every argument; a part of its proof. -/
import Derived.Test.YtjaobihcdkjmbaaGreatDoorCa
import Derived.Test.YtjaobihcdkjmbaaGreatDoorCb
import Derived.Test.YtjaobihcdkjmbaaGreatDoorC0
import Derived.Test.YtjaobihcdkjmbaaGreatDoorC1
import Derived.Test.YtjaobihcdkjmbaaGreatDoorC7
import Derived.Test.YtjaobihcdkjmbaaGreatDoorC9
import Derived.Test.YtjaobihcdkjmbaaGreatDoorC11
import Derived.Test.YtjaobihcdkjmbaaGreatDoorC12
import Derived.Test.YtjaobihcdkjmbaaGreatDoorC13
set_option linter.unusedVariables false
set_option linter.unusedSimpArgs false
namespace Go.Proofs.YtjaobihcdkjmbaaGreatDoor.PReadTokens
end Go.Proofs.YtjaobihcdkjmbaaGreatDoor.PReadTokens
namespace Go.Proofs.YtjaobihcdkjmbaaGreatDoorW.PrintLast
end Go.Proofs.YtjaobihcdkjmbaaGreatDoorW.PrintLast
namespace Go.Proofs.YtjaobihcdkjmbaaGreatDoorW.PrintMore
end Go.Proofs.YtjaobihcdkjmbaaGreatDoorW.PrintMore
namespace Go.Proofs.YtjaobihcdkjmbaaGreatDoorW.PrintWords
end Go.Proofs.YtjaobihcdkjmbaaGreatDoorW.PrintWords
set_option maxRecDepth 100000
set_option maxHeartbeats 8000000
section
namespace Go.Proofs.YtjaobihcdkjmbaaGreatDoor
open Go.RowKit Go.Proofs.YtjaobihcdkjmbaaGreatDoorW.PrintWords Go.Proofs.YtjaobihcdkjmbaaGreatDoor.PReadTokens
theorem as137_134 (v:Value) (w:World):(Instr.typeAssert (.iface 137 v) 20 134 true).run Tryz.prog w=.ok (.tuple #[.iface 137 v,.bool true]) w:=kCv Tryz.underlying134 kCX v 20 w
theorem zER (w:World):(Instr.typeAssert .nilIface 20 134 true).run Tryz.prog w=.ok (.tuple #[.nilIface,.bool false]) w:=kCX
theorem catch_idle (p:Addr) (w:World) :
  CallsD Tryz.prog 90 #[.pointer (some p)] .returning w fun e u' w'=>e=.returned (.tuple #[])∧u'=.returning∧w'=w:=by
 have hta:=zER;refine kC8 Tryz.func90 rfl fun c₀ cs hu=>?_
 apply wpS_seq;apply kCF;simp[wpOpsS,go_sem,recoverD,hu,Tryz.ntmps90,Exit.thenS,hta];refine wpS_of_wp ?_;simp only[kAV,Array.replicate_zero,kBh,kAP,List.nil_append,List.cons_append,kA0,List.set_cons_zero,List.set_cons_succ];go_wp2
 cases c₀
 simp_all [bodyPostS,results,Tryz.results90,Exit.thenS]
theorem zCb (p:Nat) (n:Int) (old:Value) (older:List PanicEntry) (w:World) (hp:w.heap[p]?=some (.cells #[old] 3 (0,0))) (hg:w.cell? ⟨0,0,none⟩=some (.iface 209 (.agg #[.pointer (some ⟨7,134,none⟩)]))) :
  CallsD Tryz.prog 90 #[.pointer (some ⟨p,0,none⟩)] (.panicking ({ v:=.iface 137 (.agg #[.int .i64 n]),recovered:=false } :: older)) w fun e u' w' =>
   e=.returned (.tuple #[])∧u'=.panicking ({ v:=.iface 137 (.agg #[.int .i64 n]),recovered:=true } :: older)∧w'.heap[p]?=some (.cells #[.int .i64 n] 3 (0,0))∧w.grownBy w' (some p):=by
 have hta:=as137_134;refine kC8 Tryz.func90 rfl fun c₀ cs hu=>?_
 apply wpS_seq;apply kCF;simp[wpOpsS,go_sem,recoverD,hu,Tryz.ntmps90,Exit.thenS,hta];refine wpS_of_wp ?_;simp only[kAV,Array.replicate_zero,kBh,kAP,List.nil_append,List.cons_append,kA0,List.set_cons_zero,List.set_cons_succ];have hpl:=zA5 hp;have hh:=as_hitG as_ok137 n w.heap.size (.int .i64 0) (w.alloc (.cells #[.int .i64 0] 137)) ((kBy _ _ ⟨0,0,none⟩ kDg).trans hg) (zA4 _ _);go_wp2_with fail;refine hh.mono ?_;rintro e w2 ⟨rfl,W,hb,rfl⟩;have hs2:=zAb hb (zA4 w (.cells #[.int .i64 0] 137));have hs3:=zAa hs2 0 (.int .i64 n);have hp2:=(kA7 W ⟨w.heap.size,0,none⟩ (.int .i64 n) p kDg).trans (zAb hb ((kA4 _ _ _ hpl).trans hp));have c1:=zA1 hs3 0;have c2:=zA1 hp2 0;have f2:=zA2 hp2 0;have hfin:=zAa hp2 0 (.int .i64 n);have hgr:w.grownBy (((W.setCell ⟨w.heap.size,0,none⟩ (.int .i64 n))).setCell ⟨p,0,none⟩ (.int .i64 n)) (some p) :=
  kA9 (kAi (kAJ _ _) ((((kA3 _ w).alloc (kA2 _) (.cells #[.int .i64 0] 137)).trans (hb.mono kCY)).setCell (p:=⟨w.heap.size,0,none⟩) (kA2 _) _)) (kAh _ _ _ _)
 go_wp2;have hfin':((W.setCell ⟨w.heap.size,0,none⟩ (.int .i64 n)).setCell ⟨p,0,none⟩ (.int .i64 n)).heap[p]?=some (.cells #[.int .i64 n] 3 (0,0)):=hfin;generalize (W.setCell ⟨w.heap.size,0,none⟩ (.int .i64 n)).setCell ⟨p,0,none⟩ (.int .i64 n)=WW at *;simp[bodyPostS,results,Tryz.results90,hfin',hgr]
theorem zDP (s:ByteArray) (hs:s.size≤2000) (w:World):Calls Tryz.prog 92 #[.string s] w fun e w' =>
  ∃R,e=.returned (.pointer (some ⟨R,0,none⟩))∧w.heap.size≤R∧Rdr w' R (zA6 s) 0 s.size∧Below w.heap.size w w':=by
 have hq:=newQueue_calls s hs w;have hmf:∀(fn:Fn) (first cap:Array Value) (w:World),(Instr.makeFunc fn first cap).run Tryz.prog w=.ok (.func fn first cap) w:=fun _ _ _ _=>rfl
 go_enter Tryz.func92,Tryz.ntmps92;go_wp2_with fail;refine hq.mono ?_;rintro e w1 ⟨v,rfl,ho,hb⟩;obtain⟨A,c,rfl⟩:=zC5 ho;have hn:=zA4 w1 (.cells #[.slice A (zA6 s).length c,.int .i64 0,.int .i64 s.size,.func (.func 134) #[] #[],.nilFunc] 97);have cc:(w1.alloc (.cells #[.slice A (zA6 s).length c,.int .i64 0,.int .i64 s.size,.func (.func 134) #[] #[],.nilFunc] 97)).cell? ⟨w1.heap.size,4,none⟩=some .nilFunc:=zA1 hn 4;have ff:=zA2 hn 4;have hst:(store ⟨w1.heap.size,4,none⟩ (.func (.func 135) #[.pointer (some ⟨w1.heap.size,0,none⟩)] #[])).run Tryz.prog (w1.alloc (.cells #[.slice A (zA6 s).length c,.int .i64 0,.int .i64 s.size,.func (.func 134) #[] #[],.nilFunc] 97))=.ok () ((w1.alloc (.cells #[.slice A (zA6 s).length c,.int .i64 0,.int .i64 s.size,.func (.func 134) #[] #[],.nilFunc] 97)).setCell ⟨w1.heap.size,4,none⟩ (.func (.func 135) #[.pointer (some ⟨w1.heap.size,0,none⟩)] #[])):=by
  rw[run_store Tryz.prog _ _ _ _ kD9];rw[cc,ff];rfl
 go_wp2;go_ret;exact⟨_,rfl,hb.size,⟨.slice A (zA6 s).length c,w.heap.size,zA4 w1 _,zBY ho ((kA3 _ w1).alloc (kA2 _) _)⟩,hb.alloc hb.size _⟩
theorem zG0 (R:Nat) (ts:List S47) (now en:Nat) (w:World) (h:Rdr w R ts now en) :
  ∃A c,Calls Tryz.prog 94 #[.pointer (some ⟨R,0,none⟩)] w fun e w'=>e=.returned (.slice A ts.length c)∧w'=w:=by
 obtain⟨v,base,h1,h2⟩:=h.out;obtain⟨A,c,rfl⟩:=zC5 h2;have d0:w.cell? ⟨R,0,none⟩=some (.slice A ts.length c):=zA1 h1 0;have hRl:=zA5 h1;clear h h1 h2;refine⟨A,c,?_⟩;go_enter Tryz.func94,Tryz.ntmps94;go_wp2;go_ret;exact⟨rfl,rfl⟩
def zBK (chk:S28→Int) (s:ByteArray):PR:=zD8 (zA6 s) s.size chk ((zA6 s).length+1) 0
def zBk (chk:S28→Int) (s:ByteArray):Int :=
 match zBK chk s with
 | .error p=>p
 | .ok (_,n)=>if n=(zA6 s).length then -1 else (tokP (zA6 s) s.size n).f2
structure Readable (chk:S28→Int) (s:ByteArray):Prop where
 size:s.size≤2000
 few:(zA6 s).length≤100000
 small:∀t∈zA6 s,t.f1.size≤2000
 pars:∀W0 R B,Env W0 R B (zA6 s)→Pars W0 R B (zA6 s) s.size 134 (zD8 (zA6 s) s.size chk ((zA6 s).length+1)) 0
def exC (x:S31) (v5:Value):Array Value:=#[.int .i64 x.f0,.string x.f1.f0,.string x.f1.f1,.string x.f2,.int .i64 x.f3,v5]
def zGo (w:World) (R X:Nat) (ts:List S47) (en:Nat):PR→Ending→World→Prop
 | .ok (x,n),e,w'=>n≤ts.length∧e=.returned (.tuple #[])∧∃v5 w5,Took w R ts n en w5∧Ex w5 (From w.heap.size) x (exV x v5) ∧
   w'=set6 w5 X (.int .i64 x.f0) (.string x.f1.f0) (.string x.f1.f1) (.string x.f2) (.int .i64 x.f3) v5
 | .error p,e,w'=>e=zAk p∧w.grownBy w' (some R)
theorem do56 (R X:Nat) (ts:List S47) (now en:Nat) (w:World) (h:Rdr w R ts now en) (r:PR) {x0 x1 x2 x3 x4 x5:Value} (hX:w.heap[X]?=some (.cells #[x0,x1,x2,x3,x4,x5] 31 (0,0))) (hne:X≠R)
  (hc:Calls Tryz.prog 134 #[.pointer (some ⟨R,0,none⟩)] w (zAi w R ts en now r)) :
  Calls Tryz.prog 56 #[.pointer (some ⟨R,0,none⟩),.pointer (some ⟨X,0,none⟩)] w (zGo w R X ts en r):=by
 obtain⟨v,base,h1,h2⟩:=h.out;have d3:w.cell? ⟨R,3,none⟩=some (.func (.func 134) #[] #[]):=zA1 h1 3;have hRl:=zA5 h1;clear h h1 h2
 cases r with
 | error p =>
  unfold zAi zAk at hc;go_enter Tryz.func56,Tryz.ntmps56;go_wp2_with (go_at_call 134;refine hc.mono ?_;rintro e w1 ⟨rfl,hg⟩);exact⟨rfl,rfl,hg⟩
 | ok r =>
  obtain⟨x,n⟩:=r;unfold zAi at hc;go_enter Tryz.func56,Tryz.ntmps56;go_wp2_with fail;refine hc.mono ?_;rintro e w5 ⟨hn1,hn2,v,rfl,hx,hk⟩;obtain⟨v5,A5,n5,c5,rfl,rfl,_,_⟩:=hx.cells;have hX5:=hk.blk hX hne;obtain⟨⟨q0,q1,q2,q3,q4,q5⟩,⟨f0,f1,f2,f3,f4,f5⟩,xl⟩:=zA9 hX5;have Hx:=kA1 hx;unfold exV;clear hx;go_wp2;refine kBc (kAX rfl _ _ _) rfl ⟨hn2,rfl,_,w5,hk,Hx.out,rfl⟩
structure Start (W:World):Prop where
 laid:Laid W
 err:W.cell? ⟨0,0,none⟩=some (.iface 209 (.agg #[.pointer (some ⟨7,134,none⟩)]))
theorem Start.below {W w:World} (h:Start W) (hb:Below W.heap.size W w):Start w:=⟨h.laid.below hb,zA0 hb h.err⟩
theorem zDn {w w':World} {R:Nat} (k:Option Nat) (h:w.grownBy w' (some R)) (hR:w.heap.size≤R):w.grownBy w' k :=
 ⟨h.os,h.tape,h.output,h.size,fun j hj _=>h.block j hj (fun e=>by injection e with e;omega)⟩
theorem zG2 {w w':World} {k:Option Nat} (h:w.grownBy w' k) (p:Addr) (hp:w.heap.size≤p.block) (v:Value):w.grownBy (w'.setCell p v) k :=
 ⟨h.os,h.tape,h.output,by rw[kAM];exact h.size,fun j hj hn=>(kA7 _ _ _ _ kCW).trans (h.block j hj hn)⟩
theorem cell_grown {w w':World} {R:Nat} (h:w.grownBy w' (some R)) {a:Addr} {v:Value} (hc:w.cell? a=some v) (hne:a.block≠R):w'.cell? a=some v :=
 by
 have:=h.block a.block (kAG w a hc) (fun e=>by injection e with e;exact hne e);simpa[World.cell?,this] using hc
theorem Rdr.set6 {w:World} {R:Nat} {ts:List S47} {now en:Nat} (h:Rdr w R ts now en) {X:Nat} {x0 x1 x2 x3 x4 x5:Value} (hX:w.heap[X]?=some (.cells #[x0,x1,x2,x3,x4,x5] 31 (0,0))) (hne:X≠R) (v0 v1 v2 v3 v4 v5:Value):Rdr (set6 w X v0 v1 v2 v3 v4 v5) R ts now en :=
 (((((h.far hX hne 0 v0).far (zAa hX 0 v0) hne 1 v1).far (zAa (zAa hX 0 v0) 1 v1) hne 2 v2).far (zAa (zAa (zAa hX 0 v0) 1 v1) 2 v2) hne 3 v3).far (zAa (zAa (zAa (zAa hX 0 v0) 1 v1) 2 v2) 3 v3) hne 4 v4).far (zAa (zAa (zAa (zAa (zAa hX 0 v0) 1 v1) 2 v2) 3 v3) 4 v4) hne 5 v5
def zBQ (chk:S28→Int) (s:ByteArray) (X:Nat) (w:World) (e:Ending) (w':World):Prop :=
 e=.returned (.int .i64 (zBk chk s))∧w.grownBy w' (some X) ∧
  ∀x,zBK chk s=.ok (x,(zA6 s).length)→∃v5,w'.heap[X]?=some (.cells (exC x v5) 31 (0,0))∧Ex w' (From w.heap.size) x (exV x v5)
theorem whole_calls (chk:S28→Int) (s:ByteArray) (h:Readable chk s) (X:Nat) (w:World) (hS:Start w) (hX0:X≠0) {x0 x1 x2 x3 x4 x5:Value} (hX:w.heap[X]?=some (.cells #[x0,x1,x2,x3,x4,x5] 31 (0,0))) :
  Calls Tryz.prog 55 #[.string s,.func (.func 56) #[] #[.pointer (some ⟨X,0,none⟩)]] w (zBQ chk s X w):=by
 have hXl:=zA5 hX;have hmf:∀(fn:Fn) (first cap:Array Value) (w:World),(Instr.makeFunc fn first cap).run Tryz.prog w=.ok (.func fn first cap) w:=fun _ _ _ _=>rfl
 have hb0:Below w.heap.size w (w.alloc (.cells #[.int .i64 0] 3)):=(kA3 _ w).alloc (kA2 _) _;have hnr:=zDP s h.size (w.alloc (.cells #[.int .i64 0] 3));have h0:(w.alloc (.cells #[.int .i64 0] 3)).heap[w.heap.size]?=some (.cells #[.int .i64 0] 3 (0,0)):=zA4 w _;go_enter_defers Tryz.func55,Tryz.ntmps55;go_wp2_with fail;refine hnr.mono ?_;rintro e w1 ⟨R,rfl,hR,hrd,hb1⟩;have hR':=hR;simp only[kAC] at hR;have hX1:w1.heap[X]?=some (.cells #[x0,x1,x2,x3,x4,x5] 31 (0,0)):=zAb hb1 ((kA4 _ _ _ hXl).trans hX);have hs1:w1.heap[w.heap.size]?=some (.cells #[.int .i64 0] 3 (0,0)):=zAb hb1 h0;have hw1:Below w.heap.size w w1:=hb0.trans (hb1.mono kCY);have hXR:X≠R:=kCW
 have hE:Env (w.alloc (.cells #[.int .i64 0] 3)) R w1.heap.size (zA6 s):=⟨hS.laid.below hb0,hR',hrd.lt,h.few,h.small⟩;have hp:=h.pars _ R _ hE 0 w1 (kA2 _) ⟨hrd,hb1,kA2 _,kAI _⟩;have h56:=do56 R X (zA6 s) 0 s.size w1 hrd _ hX1 hXR hp;have hfew:=h.few;have herr:=hS.err;change Calls _ _ _ _ (zGo w1 R X (zA6 s) s.size (zBK chk s)) at h56;have hq:∃q,q=zBk chk s:=⟨_,rfl⟩;unfold zBk at hq
 cases hr:zBK chk s with
 | error p =>
  rw[hr] at h56 hq;obtain⟨q,hq⟩:=hq;unfold zGo zAk at h56;clear hE hp h;go_wp2_with fail;refine h56.mono ?_;rintro e w2 ⟨rfl,hg2⟩;have hw2:w.grownBy w2 (some R):=kA9 (kAi (kAJ _ _) hw1) hg2;have hs2:=zAf hg2 hs1 kCW;have hX2:=zAf hg2 hX1 hXR;have hc2:w2.cell? ⟨0,0,none⟩=some (.iface 209 (.agg #[.pointer (some ⟨7,134,none⟩)])):=zA0 (hw1.grown hg2 hw1.size (fun j e=>by injection e with e;omega)) herr;go_wp2;refine kBT (f:=90) (args:=#[.pointer (some ⟨w.heap.size,0,none⟩)]) kCY kDc ?_;refine (zCb w.heap.size p (.int .i64 0) [] w2 hs2 hc2).mono ?_;rintro e u w3 ⟨rfl,rfl,hs3,hg3⟩;have c4:w3.cell? ⟨w.heap.size,0,none⟩=some (.int .i64 p):=zA1 hs3 0;have hfin:zBQ chk s X w (.returned (.int .i64 p)) w3:=by
   refine⟨?_,?_,?_⟩
   ·unfold zBk;rw[hr]
   ·exact zDn _ (kA9 (zDn _ hw2 kCW) hg3) (kA2 _)
   ·intro x hx;rw[hr] at hx;cases hx
  simp[Leaves,settle,results,Tryz.results55,go_sem,c4,hfin]
 | ok r =>
  obtain⟨x,n⟩:=r;rw[hr] at h56 hq;obtain⟨q,hq⟩:=hq;unfold zGo at h56;clear hE hp h;go_wp2_with fail;refine h56.mono ?_;rintro e w2 ⟨hn,rfl,v5,w5,hk,hx,rfl⟩;have hX5:=hk.blk hX1 hXR;have hrd3:=hk.rdr.set6 hX5 hXR (.int .i64 x.f0) (.string x.f1.f0) (.string x.f1.f1) (.string x.f2) (.int .i64 x.f3) v5;have hX3:=fin6 (.int .i64 x.f0) (.string x.f1.f0) (.string x.f1.f1) (.string x.f2) (.int .i64 x.f3) v5 hX5;have hws:w.heap.size<w1.heap.size:=zA5 hs1;have hx3:=hx.set6 (R:=X) (fun k hk e=>by have:w1.heap.size≤k:=hk;omega) (.int .i64 x.f0) (.string x.f1.f0) (.string x.f1.f1) (.string x.f2) (.int .i64 x.f3) v5;have hg3:w.grownBy (set6 w5 X (.int .i64 x.f0) (.string x.f1.f0) (.string x.f1.f1) (.string x.f2) (.int .i64 x.f3) v5) (some X) :=
   kA9 (zDn _ (kA9 (kAi (kAJ _ _) hw1) hk.grown) kCW) (zCs _ _ _ _ _ _ _)
  have hs3:(set6 w5 X (.int .i64 x.f0) (.string x.f1.f0) (.string x.f1.f1) (.string x.f2) (.int .i64 x.f3) v5).heap[w.heap.size]?=some (.cells #[.int .i64 0] 3 (0,0)) :=
   zAf (zCs X _ _ _ _ _ _) (hk.blk hs1 kCW) kCW
  have hsz3:w.heap.size<(set6 w5 X (.int .i64 x.f0) (.string x.f1.f0) (.string x.f1.f1) (.string x.f2) (.int .i64 x.f3) v5).heap.size:=zA5 hs3;generalize set6 w5 X (.int .i64 x.f0) (.string x.f1.f0) (.string x.f1.f1) (.string x.f2) (.int .i64 x.f3) v5=w3 at *;have hc3:=cell_grown hg3 herr (fun e=>hX0 e.symm);obtain⟨d0,g0,d1,d2,hlt3⟩:=hrd3.cells;have hrd4:Rdr w3.drew R (zA6 s) n s.size:=hrd3.keep (kA3 _ w3).drew;obtain⟨A,c,hl0⟩:=zG0 R _ _ _ w3.drew hrd4;have hs4:w3.drew.heap[w.heap.size]?=some (.cells #[.int .i64 0] 3 (0,0)):=zAb (kA3 _ w3).drew hs3;have hg4:w.grownBy w3.drew (some X):=kAi hg3 (kA3 _ w3).drew;have hX4:=zAb (kA3 _ w3).drew hX3;have hx4:=hx3.below (kA3 _ w3).drew;have hc4:=zA0 (kA3 _ w3).drew hc3;by_cases hnl:n=(zA6 s).length
  ·rw[kAb hnl] at hq;subst hnl;have heq:(((zA6 s).length:Int)==(zA6 s).length)=true:=by rw[kAA]
   have hs5:=zAa hs4 0 (.int .i64 (-1));have hf4:=zA2 hs4 0;have hf3:=zA2 hs3 0;have hcc3:=zA1 hs3 0;have hfin:zBQ chk s X w (.returned (.int .i64 (-1))) (w3.setCell ⟨w.heap.size,0,none⟩ (.int .i64 (-1))).drew:=by
    refine⟨?_,?_,?_⟩
    ·unfold zBk;rw[hr];simp
    ·exact kAi (zG2 hg3 ⟨w.heap.size,0,none⟩ (kA2 _) _) (kA3 _ _).drew
    ·intro x' hx';rw[hr] at hx';injection hx' with hx';injection hx' with hx' _;subst hx';refine⟨v5,zAb (kA3 _ _).drew ((kA7 _ _ _ _ kCZ).trans hX3),Ex.mono (Ex.below (Ex.step hx3 (fun k hk hlt=>?_)) (kA3 _ _).drew) (fun k hk=>kAz (kAN hws) hk)⟩;exact kA7 _ _ _ _ (by have:w1.heap.size≤k:=hk;simp;omega)
   go_wp2_with fail;go_still_tail 12,kCX;still_call hl0
   repeat still_step
   try refine kCD ?_
   change wpList _ _ _ _ _ w3.drew;go_wp2_with (go_at_call 93;refine (zDk R _).mono ?_;rintro e w6 ⟨rfl,rfl⟩);have c4:(w3.setCell ⟨w.heap.size,0,none⟩ (.int .i64 (-1))).drew.cell? ⟨w.heap.size,0,none⟩=some (.int .i64 (-1)):=by
    have:=zA1 (zAb (kA3 _ _).drew (zAa hs3 0 (.int .i64 (-1)))) 0;exact this
   generalize (w3.setCell ⟨w.heap.size,0,none⟩ (.int .i64 (-1))).drew=w9 at *;refine kBT (f:=90) (args:=#[.pointer (some ⟨w.heap.size,0,none⟩)]) kCY kDc ?_;refine (catch_idle ⟨w.heap.size,0,none⟩ w9).mono ?_;rintro e u w6 ⟨rfl,rfl,rfl⟩;simp[Leaves,settle,results,Tryz.results55,go_sem,c4,hfin]
  ·rw[kAa hnl] at hq;have heq:((n:Int)==(zA6 s).length)=false:=by rw[kAj];omega
   have hmust:=zBJ R _ _ _ w3.drew hrd4 hn;rw[← hq] at hmust;unfold zAk at hmust;go_wp2_with fail;go_still_tail 12,kCX;still_call hl0
   repeat still_step
   try refine kCD ?_
   change wpList _ _ _ _ _ w3.drew;go_wp2_with (go_at_call 93;refine hmust.mono ?_;rintro e w6 ⟨rfl,hb6⟩);have hs6:=zAb hb6 hs4;have hc6:=zA0 hb6 hc4;refine kBT (f:=90) (args:=#[.pointer (some ⟨w.heap.size,0,none⟩)]) kCY kDc ?_;refine (zCb w.heap.size (tokP (zA6 s) s.size n).f2 (.int .i64 0) [] w6 hs6 hc6).mono ?_;rintro e u w7 ⟨rfl,rfl,hs7,hg7⟩;have c4:w7.cell? ⟨w.heap.size,0,none⟩=some (.int .i64 (tokP (zA6 s) s.size n).f2):=zA1 hs7 0;have hfin:zBQ chk s X w (.returned (.int .i64 (tokP (zA6 s) s.size n).f2)) w7:=by
    refine⟨?_,?_,?_⟩
    ·unfold zBk;rw[hr];simp only[kAa hnl]
    ·have h6:=kAi hg4 hb6;exact⟨hg7.os.trans h6.os,hg7.tape.trans h6.tape,hg7.output.trans h6.output,kAz h6.size hg7.size,fun j hj hne=>(hg7.block j (kBi hj h6.size) (fun e=>by injection e with e;omega)).trans (h6.block j hj hne)⟩
    ·intro x' hx';rw[hr] at hx';injection hx' with hx';injection hx' with _ hx';exact absurd hx' hnl
   simp[Leaves,settle,results,Tryz.results55,go_sem,c4,hfin]
end Go.Proofs.YtjaobihcdkjmbaaGreatDoor
end
section
namespace Go.Proofs.YtjaobihcdkjmbaaGreatDoor.PReadTokens
open Go.RowKit Go.Proofs.YtjaobihcdkjmbaaGreatDoorW.PrintWords Go.Proofs.YtjaobihcdkjmbaaGreatDoorW.PrintLast Go.Proofs.YtjaobihcdkjmbaaGreatDoorW.PrintMore
section
attribute [local go_sem] zCG zCE zDx zDw zC9 zC8 zCF zCD   -- for this text's walks alone
set_option linter.unusedVariables false
set_option linter.unusedSimpArgs false
def metewandkit_EqTexts.l0:Nat→List ByteArray→List ByteArray→Int→Option (Bool)
 | 0,_,_,_=>none
 | k+1,x0,x1,x5=>if x5<(x0.length:Int) then (if 0≤x5 then (if x5<(x1.length:Int) then (if (rdOf ByteArray.empty x0 x5).toList=(rdOf ByteArray.empty x1 x5).toList then (metewandkit_EqTexts.l0 k x0 x1 (wrap64 (x5+1))) else (some false)) else (none)) else (none)) else (some true)
def metewandkit_EqTexts.f (k:Nat) (l0:List ByteArray) (l1:List ByteArray):Option (Bool):=if (l0.length:Int)=(l1.length:Int) then (metewandkit_EqTexts.l0 k l0 l1 0) else (some false)
theorem metewandkit_EqTexts.calls (k:Nat) (A0:Option Addr) (c0:Nat) (l0:List ByteArray) (A1:Option Addr) (c1:Nat) (l1:List ByteArray) (r:Bool) (w:World) (hr0:Kd.C Kd.string w A0 l0.length l0) (hc0:l0.length≤c0) (hr1:Kd.C Kd.string w A1 l1.length l1) (hc1:l1.length≤c1) (h:metewandkit_EqTexts.f k l0 l1=some r) :
  Calls Tryz.prog 40 #[.slice A0 l0.length c0,.slice A1 l1.length c1] w fun e w'=>e=.returned (.bool r)∧Drawn0 w w':=by
 have HR0:=Aside0.mk hr0;have HC0:=Aside0.mk hc0;clear hr0 hc0;have HR1:=Aside0.mk hr1;have HC1:=Aside0.mk hc1;clear hr1 hc1;have H:(if (l0.length:Int)=(l1.length:Int) then (metewandkit_EqTexts.l0 k l0 l1 0) else (some false))=some r:=h;clear h;by_cases c3:(l0.length:Int)=(l1.length:Int)
 ·rw[kAb c3] at H;have c3b0:((l0.length:Int)==(l1.length:Int))=true:=beq_iff_eq.mpr c3;have c3b1:((l0.length:Int) != (l1.length:Int))=false:=bne_eq_false_iff_eq.mpr c3;have c3b2:(l0.length==l1.length)=true:=by first | simpa using c3 | (simp at c3⊢;omega)
  clear c3;have H':=Aside0.mk H;clear H;go_enter Tryz.func40,Tryz.ntmps40;go_wp2
  repeat (go_quiet (fail);try go_wp2)
  go_loopg [5] k (fun kq v5 w'=>∃(x5_1:Int),v5=.int .i64 x5_1∧Aside0 (metewandkit_EqTexts.l0 kq l0 l1 x5_1=some r)∧Aside0 (kq≤k)∧Drawn0 w w')
  case atStart=>exact⟨(0),kD8,H',⟨kA2 _⟩,by repeat (first | exact Drawn0.refl _ | apply Drawn0.step)⟩
  case round =>
   clear H'
   try clear c1
   try clear p2
   try clear c3
   try clear c3b0
   try clear c3b1
   try clear c3b2
   obtain⟨x5_1,rfl,HA,HK1,⟨m1,rfl⟩⟩:=hrel
   cases gk with
   | zero=>exact absurd HA.out (by simp[metewandkit_EqTexts.l0])
   | succ k1 =>
    have H:=HA.out;clear HA;simp only[metewandkit_EqTexts.l0] at H;by_cases c4:x5_1<(l0.length:Int)
    ·rw[kAb c4] at H;have c4b0:decide (x5_1<(l0.length:Int))=true:=kA5 c4;clear c4;by_cases c5:0≤x5_1
     ·rw[kAb c5] at H;have c5b0:decide (0≤x5_1)=true:=kA5 c5;clear c5;by_cases c6:x5_1<(l1.length:Int)
      ·rw[kAb c6] at H;have c6b0:decide (x5_1<(l1.length:Int))=true:=kA5 c6;clear c6;by_cases c7:(rdOf ByteArray.empty l0 x5_1).toList=(rdOf ByteArray.empty l1 x5_1).toList
       ·rw[kAb c7] at H;have c7b0:((rdOf ByteArray.empty l0 x5_1).toList==(rdOf ByteArray.empty l1 x5_1).toList)=true:=beq_iff_eq.mpr c7;have c7b1:((rdOf ByteArray.empty l0 x5_1).toList != (rdOf ByteArray.empty l1 x5_1).toList)=false:=bne_eq_false_iff_eq.mpr c7;clear c7;have H':=Aside0.mk H;clear H;have p344:0≤(x5_1:Int):=kA8 kD1;have q344:x5_1<(l0.length:Int):=kA8 kD1;obtain⟨ad344,e344,hx344_0⟩:=Kd.at_string HR0.out x5_1 p344 q344
        cases e344;replace p344:=kAs p344;replace q344:=kAs q344;have p345:0≤(x5_1:Int):=kA8 kD1;have q345:x5_1<(l1.length:Int):=kA8 kD1;obtain⟨ad345,e345,hx345_0⟩:=Kd.at_string HR1.out x5_1 p345 q345
        cases e345;replace p345:=kAs p345;replace q345:=kAs q345;go_wp2
        repeat (go_quiet (fail);try go_wp2)
        go_roundg k1
        case measure=>have:=HK1.out;omega
        case rel=>exact⟨(wrap64 (x5_1+1)),kD8,H',⟨by have:=HK1.out;omega⟩,by repeat (first | exact Drawn0.refl _ | apply Drawn0.step)⟩
       ·rw[kAa c7] at H;have c7b0:((rdOf ByteArray.empty l0 x5_1).toList==(rdOf ByteArray.empty l1 x5_1).toList)=false:=beq_eq_false_iff_ne.mpr c7;have c7b1:((rdOf ByteArray.empty l0 x5_1).toList != (rdOf ByteArray.empty l1 x5_1).toList)=true:=bne_iff_ne.mpr c7;obtain rfl:=kAc H;have p344:0≤(x5_1:Int):=kA8 kD1;have q344:x5_1<(l0.length:Int):=kA8 kD1;obtain⟨ad344,e344,hx344_0⟩:=Kd.at_string HR0.out x5_1 p344 q344
        cases e344;replace p344:=kAs p344;replace q344:=kAs q344;have p345:0≤(x5_1:Int):=kA8 kD1;have q345:x5_1<(l1.length:Int):=kA8 kD1;obtain⟨ad345,e345,hx345_0⟩:=Kd.at_string HR1.out x5_1 p345 q345
        cases e345;replace p345:=kAs p345;replace q345:=kAs q345;go_wp2
        repeat (go_quiet (fail);try go_wp2)
        go_ret;exact⟨kD8,by repeat (first | exact Drawn0.refl _ | apply Drawn0.step)⟩
      ·rw[kAa c6] at H;exact absurd H kCY
     ·rw[kAa c5] at H;exact absurd H kCY
    ·rw[kAa c4] at H;have c4b0:decide (x5_1<(l0.length:Int))=false:=kA6 c4;clear c4;obtain rfl:=kAc H;go_wp2
     repeat (go_quiet (fail);try go_wp2)
     go_ret;exact⟨kD8,by repeat (first | exact Drawn0.refl _ | apply Drawn0.step)⟩
 ·rw[kAa c3] at H;have c3b0:((l0.length:Int)==(l1.length:Int))=false:=beq_eq_false_iff_ne.mpr c3;have c3b1:((l0.length:Int) != (l1.length:Int))=true:=bne_iff_ne.mpr c3;have c3b2:(l0.length==l1.length)=false:=by first | simpa using c3 | (simp at c3⊢;omega)
  obtain rfl:=kAc H;go_enter Tryz.func40,Tryz.ntmps40;go_wp2
  repeat (go_quiet (fail);try go_wp2)
  go_ret;exact⟨kD8,by repeat (first | exact Drawn0.refl _ | apply Drawn0.step)⟩
mutual
def metewandref13_level.j0:Nat→Int→Bool→Option (Int)
 | 0,_,_=>none
 | k+1,x4,x5=>if x5=true then (some 0) else (if x4=2 then (metewandref13_level.j1 k x4 (x4==2)) else (if x4=3 then (metewandref13_level.j1 k x4 (x4==3)) else (metewandref13_level.j1 k x4 (x4==4))))
def metewandref13_level.j1:Nat→Int→Bool→Option (Int)
 | 0,_,_=>none
 | k+1,x4,x10=>if x10=true then (some 1) else (if x4=5 then (metewandref13_level.j2 k x4 (x4==5)) else (metewandref13_level.j2 k x4 (x4==6)))
def metewandref13_level.j2:Nat→Int→Bool→Option (Int)
 | 0,_,_=>none
 | k+1,x4,x14=>if x14=true then (some 2) else (if x4=7 then (some 3) else (some 4))
end
def metewandref13_level.f (k:Nat) (a0_0:Int) (a0_1:ByteArray) (a0_2:ByteArray) (a0_3:ByteArray) (a0_4:Int) (l0_5:List (S31)):Option (Int):=if a0_0=13 then (metewandref13_level.j0 k a0_0 (a0_0==13)) else (if a0_0=12 then (metewandref13_level.j0 k a0_0 (a0_0==12)) else (if a0_0=10 then (metewandref13_level.j0 k a0_0 (a0_0==10)) else (metewandref13_level.j0 k a0_0 (a0_0==11))))
theorem metewandref13_level.calls (k:Nat) (a0_0:Int) (a0_1:ByteArray) (a0_2:ByteArray) (a0_3:ByteArray) (a0_4:Int) (A0_5:Option Addr) (c0_5:Nat) (l0_5:List (S31)) (r:Int) (w:World) (hr0_5:Kd.C k31 w A0_5 l0_5.length l0_5) (hc0_5:l0_5.length≤c0_5) (h:metewandref13_level.f k a0_0 a0_1 a0_2 a0_3 a0_4 l0_5=some r) :
  Calls Tryz.prog 120 #[.agg #[.int .i64 a0_0,.string a0_1,.string a0_2,.string a0_3,.int .i64 a0_4,.slice A0_5 l0_5.length c0_5]] w fun e w'=>e=.returned (.int .i64 r)∧Below w.heap.size w w':=by
 have hu31:=Tryz.underlying31;have HR0_5:=Aside0.mk hr0_5;have HC0_5:=Aside0.mk hc0_5;clear hr0_5 hc0_5;have HB:=Aside0.mk (kA3 w.heap.size w);have H:(if a0_0=13 then (metewandref13_level.j0 k a0_0 (a0_0==13)) else (if a0_0=12 then (metewandref13_level.j0 k a0_0 (a0_0==12)) else (if a0_0=10 then (metewandref13_level.j0 k a0_0 (a0_0==10)) else (metewandref13_level.j0 k a0_0 (a0_0==11)))))=some r:=h;clear h;have HC2:=Aside0.mk H;clear H;go_enter Tryz.func120,Tryz.ntmps120
 go_upto_if 5 with (first | ((with_reducible refine zE0 (N:=1) rfl ?_);refine zGf ?hg (N:=1) ?hd (cs:=#[.int .i64 a0_0,.string a0_1,.string a0_2,.string a0_3,.int .i64 a0_4,.slice A0_5 l0_5.length c0_5]) (t:=31) ?hr ?_;(case hd=>rfl);(case hg=>rfl);(case hr=>first | (go_simp;done) | (go_simp;rfl));intro gb356 hg w3 hbox hb;have n0_:=Aside0.mk (zAG kD7 hb);have n1_:=Aside0.mk (hbox);have n2_:=Aside0.mk ((by rw[hg];exact (zBd kD7):w.heap.size≤gb356));have n3_:=Aside0.mk ((by rw[hg];exact (zBd kD7):w.heap.size≤gb356));clear HB;have HB:=n0_;have BK356:=n1_;have GW356:=n2_;have GE356:=n3_;clear n0_ n1_ n2_ n3_;clear hb hbox hg;have hcz4_0:w3.cell? ⟨gb356,0,none⟩=some (.int .i64 a0_0):=(zA1 BK356.out 0).trans rfl;have hcz4_1:w3.cell? ⟨gb356,1,none⟩=some (.string a0_1):=(zA1 BK356.out 1).trans rfl;have hcz4_2:w3.cell? ⟨gb356,2,none⟩=some (.string a0_2):=(zA1 BK356.out 2).trans rfl;have hcz4_3:w3.cell? ⟨gb356,3,none⟩=some (.string a0_3):=(zA1 BK356.out 3).trans rfl;have hcz4_4:w3.cell? ⟨gb356,4,none⟩=some (.int .i64 a0_4):=(zA1 BK356.out 4).trans rfl;have hcz4_5:w3.cell? ⟨gb356,5,none⟩=some (.slice A0_5 l0_5.length c0_5):=(zA1 BK356.out 5).trans rfl;have hfz4_0:=zA2 BK356.out 0;have hfz4_1:=zA2 BK356.out 1;have hfz4_2:=zA2 BK356.out 2;have hfz4_3:=zA2 BK356.out 3;have hfz4_4:=zA2 BK356.out 4;have hfz4_5:=zA2 BK356.out 5))
 (try simp only[Act.put,kA0,List.set_cons_zero,List.set_cons_succ])
 go_cut [5] (fun v5 wc=>∃(kq:Nat) (x5_1:Bool),v5=.bool x5_1∧Aside0 (metewandref13_level.j0 kq a0_0 x5_1=some r)∧Aside0 (kq≤k)∧Aside0 (wc.heap[gb356]?=some (.cells #[.int .i64 a0_0,.string a0_1,.string a0_2,.string a0_3,.int .i64 a0_4,(.slice A0_5 l0_5.length c0_5)] 31 (0,0)))∧Aside0 (Below w.heap.size w wc))
 case first =>
  have H:=HC2.out;clear HC2;by_cases c5:a0_0=13
  ·rw[kAb c5] at H;have c5b0:(a0_0==13)=true:=beq_iff_eq.mpr c5;have c5b1:(a0_0 != 13)=false:=bne_eq_false_iff_eq.mpr c5;clear c5
   (first | rw[c5b0] | (simp only[zAg,zAh];rw[c5b0]) | skip)
   have H':=Aside0.mk H;clear H;go_wp2
   go_meet
   case rel=>exact⟨_,((a0_0==13)),kD8,H',⟨by first | omega | exact kA2 _⟩,⟨by (with_reducible repeat (first | refine zAp ?_ _ | refine zBp ?_ | refine zBb ?_ _));exact BK356.out⟩,⟨by repeat (first | (with_reducible first | exact HB.out | apply zA7 | apply zA3 | apply zA8 | refine zB0 ?_ GE356.out) | exact HB.out)⟩⟩
  ·rw[kAa c5] at H;have c5b0:(a0_0==13)=false:=beq_eq_false_iff_ne.mpr c5;have c5b1:(a0_0 != 13)=true:=bne_iff_ne.mpr c5
   (first | rw[c5b0] | (simp only[zAg,zAh];rw[c5b0]) | skip)
   by_cases c6:a0_0=12
   ·rw[kAb c6] at H;have c6b0:(a0_0==12)=true:=beq_iff_eq.mpr c6;have c6b1:(a0_0 != 12)=false:=bne_eq_false_iff_eq.mpr c6;clear c6;have H':=Aside0.mk H;clear H;go_wp2
    go_meet
    case rel=>exact⟨_,((a0_0==12)),kD8,H',⟨by first | omega | exact kA2 _⟩,⟨by (with_reducible repeat (first | refine zAp ?_ _ | refine zBp ?_ | refine zBb ?_ _));exact BK356.out⟩,⟨by repeat (first | (with_reducible first | exact HB.out | apply zA7 | apply zA3 | apply zA8 | refine zB0 ?_ GE356.out) | exact HB.out)⟩⟩
   ·rw[kAa c6] at H;have c6b0:(a0_0==12)=false:=beq_eq_false_iff_ne.mpr c6;have c6b1:(a0_0 != 12)=true:=bne_iff_ne.mpr c6;by_cases c7:a0_0=10
    ·rw[kAb c7] at H;have c7b0:(a0_0==10)=true:=beq_iff_eq.mpr c7;have c7b1:(a0_0 != 10)=false:=bne_eq_false_iff_eq.mpr c7;clear c7;have H':=Aside0.mk H;clear H;go_wp2
     go_meet
     case rel=>exact⟨_,((a0_0==10)),kD8,H',⟨by first | omega | exact kA2 _⟩,⟨by (with_reducible repeat (first | refine zAp ?_ _ | refine zBp ?_ | refine zBb ?_ _));exact BK356.out⟩,⟨by repeat (first | (with_reducible first | exact HB.out | apply zA7 | apply zA3 | apply zA8 | refine zB0 ?_ GE356.out) | exact HB.out)⟩⟩
    ·rw[kAa c7] at H;have c7b0:(a0_0==10)=false:=beq_eq_false_iff_ne.mpr c7;have c7b1:(a0_0 != 10)=true:=bne_iff_ne.mpr c7;have H':=Aside0.mk H;clear H;go_wp2
     go_meet
     case rel=>exact⟨_,((a0_0==11)),kD8,H',⟨by first | omega | exact kA2 _⟩,⟨by (with_reducible repeat (first | refine zAp ?_ _ | refine zBp ?_ | refine zBb ?_ _));exact BK356.out⟩,⟨by repeat (first | (with_reducible first | exact HB.out | apply zA7 | apply zA3 | apply zA8 | refine zB0 ?_ GE356.out) | exact HB.out)⟩⟩
 case rest =>
  clear HC2
  try clear c1
  try clear p2
  try clear c5
  try clear c5b0
  try clear c5b1
  try clear c6
  try clear c6b0
  try clear c6b1
  try clear c7
  try clear c7b0
  try clear c7b1
  try clear hcz4_0
  try clear hcz4_1
  try clear hcz4_2
  try clear hcz4_3
  try clear hcz4_4
  try clear hcz4_5
  try clear hfz4_0
  try clear hfz4_1
  try clear hfz4_2
  try clear hfz4_3
  try clear hfz4_4
  try clear hfz4_5
  obtain⟨kq,x5_1,rfl,HA,HJ1,BK356,HB⟩:=hcut
  cases kq with
  | zero=>exact absurd HA.out (by simp[metewandref13_level.j0])
  | succ kj1 =>
   have H:=HA.out;clear HA;simp only[metewandref13_level.j0] at H;by_cases c8:x5_1=true
   ·subst c8;have H1:(some 0)=some r:=by rw[kAb rfl] at H;exact H
    clear H;have H:=H1;clear H1;obtain rfl:=kAc H;go_wp2;go_ret;exact⟨by first | rfl | (simp[zAr,zAq]<;>rfl) | (simp[*,zAr,zAq]<;>rfl),by repeat (first | (with_reducible first | exact HB.out | apply zA7 | apply zA3 | apply zA8 | refine zB0 ?_ GE356.out) | exact HB.out)⟩
   ·replace c8:=Bool.eq_false_iff.mpr c8;subst c8;have H1:(if a0_0=2 then (metewandref13_level.j1 kj1 a0_0 (a0_0==2)) else (if a0_0=3 then (metewandref13_level.j1 kj1 a0_0 (a0_0==3)) else (metewandref13_level.j1 kj1 a0_0 (a0_0==4))))=some r:=by rw[kAa (show ¬(false=true) by decide)] at H;exact H
    clear H;have H:=H1;clear H1;have HC9:=Aside0.mk H;clear H
    go_upto_if 10 with (fail)
    go_cut [10] (fun v10 wc=>∃(kq:Nat) (x10_8:Bool),v10=.bool x10_8∧Aside0 (metewandref13_level.j1 kq a0_0 x10_8=some r)∧Aside0 (kq≤kj1)∧Aside0 (wc.heap[gb356]?=some (.cells #[.int .i64 a0_0,.string a0_1,.string a0_2,.string a0_3,.int .i64 a0_4,(.slice A0_5 l0_5.length c0_5)] 31 (0,0)))∧Aside0 (Below w.heap.size w wc))
    case first =>
     have H:=HC9.out;clear HC9;by_cases c10:a0_0=2
     ·rw[kAb c10] at H;have c10b0:(a0_0==2)=true:=beq_iff_eq.mpr c10;have c10b1:(a0_0 != 2)=false:=bne_eq_false_iff_eq.mpr c10;clear c10
      (first | rw[c10b0] | (simp only[zAg,zAh];rw[c10b0]) | skip)
      have H':=Aside0.mk H;clear H;go_wp2
      go_meet
      case rel=>exact⟨_,((a0_0==2)),kD8,H',⟨by have:=HJ1.out;first | omega | exact kA2 _⟩,⟨by (with_reducible repeat (first | refine zAp ?_ _ | refine zBp ?_ | refine zBb ?_ _));exact BK356.out⟩,⟨by repeat (first | (with_reducible first | exact HB.out | apply zA7 | apply zA3 | apply zA8 | refine zB0 ?_ GE356.out) | exact HB.out)⟩⟩
     ·rw[kAa c10] at H;have c10b0:(a0_0==2)=false:=beq_eq_false_iff_ne.mpr c10;have c10b1:(a0_0 != 2)=true:=bne_iff_ne.mpr c10
      (first | rw[c10b0] | (simp only[zAg,zAh];rw[c10b0]) | skip)
      by_cases c11:a0_0=3
      ·rw[kAb c11] at H;have c11b0:(a0_0==3)=true:=beq_iff_eq.mpr c11;have c11b1:(a0_0 != 3)=false:=bne_eq_false_iff_eq.mpr c11;clear c11;have H':=Aside0.mk H;clear H;go_wp2
       go_meet
       case rel=>exact⟨_,((a0_0==3)),kD8,H',⟨by have:=HJ1.out;first | omega | exact kA2 _⟩,⟨by (with_reducible repeat (first | refine zAp ?_ _ | refine zBp ?_ | refine zBb ?_ _));exact BK356.out⟩,⟨by repeat (first | (with_reducible first | exact HB.out | apply zA7 | apply zA3 | apply zA8 | refine zB0 ?_ GE356.out) | exact HB.out)⟩⟩
      ·rw[kAa c11] at H;have c11b0:(a0_0==3)=false:=beq_eq_false_iff_ne.mpr c11;have c11b1:(a0_0 != 3)=true:=bne_iff_ne.mpr c11;have H':=Aside0.mk H;clear H;go_wp2
       go_meet
       case rel=>exact⟨_,((a0_0==4)),kD8,H',⟨by have:=HJ1.out;first | omega | exact kA2 _⟩,⟨by (with_reducible repeat (first | refine zAp ?_ _ | refine zBp ?_ | refine zBb ?_ _));exact BK356.out⟩,⟨by repeat (first | (with_reducible first | exact HB.out | apply zA7 | apply zA3 | apply zA8 | refine zB0 ?_ GE356.out) | exact HB.out)⟩⟩
    case rest =>
     clear HC9
     try clear c1
     try clear p2
     try clear c5
     try clear c5b0
     try clear c5b1
     try clear c6
     try clear c6b0
     try clear c6b1
     try clear c7
     try clear c7b0
     try clear c7b1
     try clear c8
     try clear c10
     try clear c10b0
     try clear c10b1
     try clear c11
     try clear c11b0
     try clear c11b1
     try clear hcz4_0
     try clear hcz4_1
     try clear hcz4_2
     try clear hcz4_3
     try clear hcz4_4
     try clear hcz4_5
     try clear hfz4_0
     try clear hfz4_1
     try clear hfz4_2
     try clear hfz4_3
     try clear hfz4_4
     try clear hfz4_5
     try clear p2
     obtain⟨kq,x10_8,rfl,HA,HJ8,BK356,HB⟩:=hcut
     cases kq with
     | zero=>exact absurd HA.out (by simp[metewandref13_level.j1])
     | succ kj8 =>
      have H:=HA.out;clear HA;simp only[metewandref13_level.j1] at H;by_cases c12:x10_8=true
      ·subst c12;have H1:(some 1)=some r:=by rw[kAb rfl] at H;exact H
       clear H;have H:=H1;clear H1;obtain rfl:=kAc H;go_wp2;go_ret;exact⟨by first | rfl | (simp[zAr,zAq]<;>rfl) | (simp[*,zAr,zAq]<;>rfl),by repeat (first | (with_reducible first | exact HB.out | apply zA7 | apply zA3 | apply zA8 | refine zB0 ?_ GE356.out) | exact HB.out)⟩
      ·replace c12:=Bool.eq_false_iff.mpr c12;subst c12;have H1:(if a0_0=5 then (metewandref13_level.j2 kj8 a0_0 (a0_0==5)) else (metewandref13_level.j2 kj8 a0_0 (a0_0==6)))=some r:=by rw[kAa (show ¬(false=true) by decide)] at H;exact H
       clear H;have H:=H1;clear H1;have HC13:=Aside0.mk H;clear H
       go_upto_if 14 with (fail)
       go_cut [14] (fun v14 wc=>∃(kq:Nat) (x14_12:Bool),v14=.bool x14_12∧Aside0 (metewandref13_level.j2 kq a0_0 x14_12=some r)∧Aside0 (kq≤kj8)∧Aside0 (wc.heap[gb356]?=some (.cells #[.int .i64 a0_0,.string a0_1,.string a0_2,.string a0_3,.int .i64 a0_4,(.slice A0_5 l0_5.length c0_5)] 31 (0,0)))∧Aside0 (Below w.heap.size w wc))
       case first =>
        have H:=HC13.out;clear HC13;by_cases c14:a0_0=5
        ·rw[kAb c14] at H;have c14b0:(a0_0==5)=true:=beq_iff_eq.mpr c14;have c14b1:(a0_0 != 5)=false:=bne_eq_false_iff_eq.mpr c14;clear c14
         (first | rw[c14b0] | (simp only[zAg,zAh];rw[c14b0]) | skip)
         have H':=Aside0.mk H;clear H;go_wp2
         go_meet
         case rel=>exact⟨_,((a0_0==5)),kD8,H',⟨by have:=HJ1.out;have:=HJ8.out;first | omega | exact kA2 _⟩,⟨by (with_reducible repeat (first | refine zAp ?_ _ | refine zBp ?_ | refine zBb ?_ _));exact BK356.out⟩,⟨by repeat (first | (with_reducible first | exact HB.out | apply zA7 | apply zA3 | apply zA8 | refine zB0 ?_ GE356.out) | exact HB.out)⟩⟩
        ·rw[kAa c14] at H;have c14b0:(a0_0==5)=false:=beq_eq_false_iff_ne.mpr c14;have c14b1:(a0_0 != 5)=true:=bne_iff_ne.mpr c14
         (first | rw[c14b0] | (simp only[zAg,zAh];rw[c14b0]) | skip)
         have H':=Aside0.mk H;clear H;go_wp2
         go_meet
         case rel=>exact⟨_,((a0_0==6)),kD8,H',⟨by have:=HJ1.out;have:=HJ8.out;first | omega | exact kA2 _⟩,⟨by (with_reducible repeat (first | refine zAp ?_ _ | refine zBp ?_ | refine zBb ?_ _));exact BK356.out⟩,⟨by repeat (first | (with_reducible first | exact HB.out | apply zA7 | apply zA3 | apply zA8 | refine zB0 ?_ GE356.out) | exact HB.out)⟩⟩
       case rest =>
        clear HC13
        try clear c1
        try clear p2
        try clear c5
        try clear c5b0
        try clear c5b1
        try clear c6
        try clear c6b0
        try clear c6b1
        try clear c7
        try clear c7b0
        try clear c7b1
        try clear c8
        try clear c10
        try clear c10b0
        try clear c10b1
        try clear c11
        try clear c11b0
        try clear c11b1
        try clear c12
        try clear c14
        try clear c14b0
        try clear c14b1
        try clear hcz4_0
        try clear hcz4_1
        try clear hcz4_2
        try clear hcz4_3
        try clear hcz4_4
        try clear hcz4_5
        try clear hfz4_0
        try clear hfz4_1
        try clear hfz4_2
        try clear hfz4_3
        try clear hfz4_4
        try clear hfz4_5
        try clear p2
        obtain⟨kq,x14_12,rfl,HA,HJ12,BK356,HB⟩:=hcut
        cases kq with
        | zero=>exact absurd HA.out (by simp[metewandref13_level.j2])
        | succ kj12 =>
         have H:=HA.out;clear HA;simp only[metewandref13_level.j2] at H;by_cases c15:x14_12=true
         ·subst c15;have H1:(some 2)=some r:=by rw[kAb rfl] at H;exact H
          clear H;have H:=H1;clear H1;obtain rfl:=kAc H;go_wp2;go_ret;exact⟨by first | rfl | (simp[zAr,zAq]<;>rfl) | (simp[*,zAr,zAq]<;>rfl),by repeat (first | (with_reducible first | exact HB.out | apply zA7 | apply zA3 | apply zA8 | refine zB0 ?_ GE356.out) | exact HB.out)⟩
         ·replace c15:=Bool.eq_false_iff.mpr c15;subst c15;have H1:(if a0_0=7 then (some 3) else (some 4))=some r:=by rw[kAa (show ¬(false=true) by decide)] at H;exact H
          clear H;have H:=H1;clear H1;by_cases c16:a0_0=7
          ·rw[kAb c16] at H;have c16b0:(a0_0==7)=true:=beq_iff_eq.mpr c16;have c16b1:(a0_0 != 7)=false:=bne_eq_false_iff_eq.mpr c16;clear c16;obtain rfl:=kAc H;go_wp2;go_ret;exact⟨by first | rfl | (simp[zAr,zAq]<;>rfl) | (simp[*,zAr,zAq]<;>rfl),by repeat (first | (with_reducible first | exact HB.out | apply zA7 | apply zA3 | apply zA8 | refine zB0 ?_ GE356.out) | exact HB.out)⟩
          ·rw[kAa c16] at H;have c16b0:(a0_0==7)=false:=beq_eq_false_iff_ne.mpr c16;have c16b1:(a0_0 != 7)=true:=bne_iff_ne.mpr c16;obtain rfl:=kAc H;go_wp2;go_ret;exact⟨by first | rfl | (simp[zAr,zAq]<;>rfl) | (simp[*,zAr,zAq]<;>rfl),by repeat (first | (with_reducible first | exact HB.out | apply zA7 | apply zA3 | apply zA8 | refine zB0 ?_ GE356.out) | exact HB.out)⟩
end
end Go.Proofs.YtjaobihcdkjmbaaGreatDoor.PReadTokens
end
