/- The law ReadBlanks answers true for every argument; a part of its proof. -/
import Derived.Test.YtjaobihcdkjmbaaGreatDoorBa
import Derived.Test.YtjaobihcdkjmbaaGreatDoorBb
import Derived.Test.YtjaobihcdkjmbaaGreatDoorB0
import Derived.Test.YtjaobihcdkjmbaaGreatDoorB1
import Derived.Test.YtjaobihcdkjmbaaGreatDoorB5
import Derived.Test.YtjaobihcdkjmbaaGreatDoorB7
import Derived.Test.YtjaobihcdkjmbaaGreatDoorB8
import Derived.Test.YtjaobihcdkjmbaaGreatDoorB9
import Derived.Test.YtjaobihcdkjmbaaGreatDoorB11
import Derived.Test.YtjaobihcdkjmbaaGreatDoorB12
import Derived.Test.YtjaobihcdkjmbaaGreatDoorB14
import Derived.Test.YtjaobihcdkjmbaaGreatDoorB16
import Derived.Test.YtjaobihcdkjmbaaGreatDoorB17
import Derived.Test.YtjaobihcdkjmbaaGreatDoorB18
import Derived.Test.YtjaobihcdkjmbaaGreatDoorB19
import Derived.Test.YtjaobihcdkjmbaaGreatDoorB20
import Derived.Test.YtjaobihcdkjmbaaGreatDoorB21
set_option linter.unusedVariables false
set_option linter.unusedSimpArgs false
namespace Go.Proofs.YtjaobihcdkjmbaaGreatDoor.PReadTokens
end Go.Proofs.YtjaobihcdkjmbaaGreatDoor.PReadTokens
namespace Go.Proofs.YtjaobihcdkjmbaaGreatDoorW.PrintWords
end Go.Proofs.YtjaobihcdkjmbaaGreatDoorW.PrintWords
set_option maxRecDepth 100000
set_option maxHeartbeats 8000000
section
namespace Go.Proofs.YtjaobihcdkjmbaaGreatDoor
open Go.RowKit Go.Proofs.YtjaobihcdkjmbaaGreatDoorW.PrintWords Go.Proofs.YtjaobihcdkjmbaaGreatDoor.PReadTokens
def zBn (T:TypeId) (e:Int):Ending:=.panicked [{ v:=.iface T (.agg #[.int .i64 e]),recovered:=false }]
theorem as159_134 (v:Value) (w:World):(Instr.typeAssert (.iface 159 v) 20 134 true).run Tryz.prog w=.ok (.tuple #[.iface 159 v,.bool true]) w:=kCq Tryz.underlying134 kCU v 20 w
theorem caught63_hit (n:Int) (w:World) (hg:w.cell? ⟨0,0,none⟩=some (.iface 209 (.agg #[.pointer (some ⟨7,134,none⟩)]))) :
  Calls Tryz.prog 63 #[.iface 159 (.agg #[.int .i64 n])] w fun e w'=>e=.returned (.int .i64 n)∧Below w.heap.size w w':=by
 have hta:=as159_134;have hpl:=kAE w _ hg;have hh:=as_hitG as_ok159 n w.heap.size (.int .i64 0) (w.alloc (.cells #[.int .i64 0] 159)) ((kBt _ _ ⟨0,0,none⟩ hpl).trans hg) (zA4 _ _);go_enter Tryz.func63,Tryz.ntmps63;go_wp2_with fail;refine hh.mono ?_;rintro e w2 ⟨rfl,W,hb,rfl⟩;have hs2:=zA9 hb (zA4 w (.cells #[.int .i64 0] 159));have hs3:=zA7 hs2 0 (.int .i64 n);have c1:=zA1 hs3 0;have hfin:=(((kA3 _ w).alloc (kA2 _) (.cells #[.int .i64 0] 159)).trans (hb.mono kCV)).setCell (p:=⟨w.heap.size,0,none⟩) (kA2 _) (.int .i64 n);go_wp2;go_ret;exact⟨rfl,hfin⟩
theorem catch62_hit (p:Nat) (n:Int) (old:Value) (older:List PanicEntry) (w:World) (hp:w.heap[p]?=some (.cells #[old] 36 (0,0))) (hg:w.cell? ⟨0,0,none⟩=some (.iface 209 (.agg #[.pointer (some ⟨7,134,none⟩)]))) :
  CallsD Tryz.prog 62 #[.pointer (some ⟨p,0,none⟩)] (.panicking ({ v:=.iface 159 (.agg #[.int .i64 n]),recovered:=false } :: older)) w fun e u' w' =>
   e=.returned (.tuple #[])∧u'=.panicking ({ v:=.iface 159 (.agg #[.int .i64 n]),recovered:=true } :: older)∧w'.heap[p]?=some (.cells #[.int .i64 n] 36 (0,0))∧w.grownBy w' (some p):=by
 have hta:=caught63_hit n w hg;refine kC5 Tryz.func62 rfl fun c₀ cs hu=>?_
 apply kCB;simp[wpOpsS,go_sem,recoverD,hu,Tryz.ntmps62,Exit.thenS];refine hta.mono ?_;rintro e w' ⟨rfl,hb⟩;have hp2:=zA9 hb hp;have c0:=zA1 hp2 0;have f0:=zA2 hp2 0;have hfin:=zA7 hp2 0 (.int .i64 n);have hgr:w.grownBy (w'.setCell ⟨p,0,none⟩ (.int .i64 n)) (some p):=kA6 (kAe (kAF _ _) hb) (kAf _ _ _ _);simp[go_sem,c0,f0,Oper.upon,Result.andThen]
 cases c₀
 simp_all [bodyPostS,results,Tryz.results62]
theorem as253_134 (v:Value) (w:World):(Instr.typeAssert (.iface 253 v) 20 134 true).run Tryz.prog w=.ok (.tuple #[.iface 253 v,.bool true]) w:=kCq Tryz.underlying134 kCU v 20 w
theorem caught167_hit (n:Int) (w:World) (hg:w.cell? ⟨0,0,none⟩=some (.iface 209 (.agg #[.pointer (some ⟨7,134,none⟩)]))) :
  Calls Tryz.prog 167 #[.iface 253 (.agg #[.int .i64 n])] w fun e w'=>e=.returned (.int .i64 n)∧Below w.heap.size w w':=by
 have hta:=as253_134;have hpl:=kAE w _ hg;have hh:=as_hitG as_ok253 n w.heap.size (.int .i64 0) (w.alloc (.cells #[.int .i64 0] 253)) ((kBt _ _ ⟨0,0,none⟩ hpl).trans hg) (zA4 _ _);go_enter Tryz.func167,Tryz.ntmps167;go_wp2_with fail;refine hh.mono ?_;rintro e w2 ⟨rfl,W,hb,rfl⟩;have hs2:=zA9 hb (zA4 w (.cells #[.int .i64 0] 253));have hs3:=zA7 hs2 0 (.int .i64 n);have c1:=zA1 hs3 0;have hfin:=(((kA3 _ w).alloc (kA2 _) (.cells #[.int .i64 0] 253)).trans (hb.mono kCV)).setCell (p:=⟨w.heap.size,0,none⟩) (kA2 _) (.int .i64 n);go_wp2;go_ret;exact⟨rfl,hfin⟩
theorem catch166_hit (p:Nat) (n:Int) (old:Value) (older:List PanicEntry) (w:World) (hp:w.heap[p]?=some (.cells #[old] 36 (0,0))) (hg:w.cell? ⟨0,0,none⟩=some (.iface 209 (.agg #[.pointer (some ⟨7,134,none⟩)]))) :
  CallsD Tryz.prog 166 #[.pointer (some ⟨p,0,none⟩)] (.panicking ({ v:=.iface 253 (.agg #[.int .i64 n]),recovered:=false } :: older)) w fun e u' w' =>
   e=.returned (.tuple #[])∧u'=.panicking ({ v:=.iface 253 (.agg #[.int .i64 n]),recovered:=true } :: older)∧w'.heap[p]?=some (.cells #[.int .i64 n] 36 (0,0))∧w.grownBy w' (some p):=by
 have hta:=caught167_hit n w hg;refine kC5 Tryz.func166 rfl fun c₀ cs hu=>?_
 apply kCB;simp[wpOpsS,go_sem,recoverD,hu,Tryz.ntmps166,Exit.thenS];refine hta.mono ?_;rintro e w' ⟨rfl,hb⟩;have hp2:=zA9 hb hp;have c0:=zA1 hp2 0;have f0:=zA2 hp2 0;have hfin:=zA7 hp2 0 (.int .i64 n);have hgr:w.grownBy (w'.setCell ⟨p,0,none⟩ (.int .i64 n)) (some p):=kA6 (kAe (kAF _ _) hb) (kAf _ _ _ _);simp[go_sem,c0,f0,Oper.upon,Result.andThen]
 cases c₀
 simp_all [bodyPostS,results,Tryz.results166]
theorem zFX (e:Int) (w:World):Calls Tryz.prog 188 #[.bool true,.int .i64 e] w fun en w'=>en=zBn 253 e∧w'=w:=by
 unfold zBn;go_enter Tryz.func188,Tryz.ntmps188;go_wp2;exact⟨rfl,rfl,rfl⟩
theorem as300_134 (v:Value) (w:World):(Instr.typeAssert (.iface 300 v) 20 134 true).run Tryz.prog w=.ok (.tuple #[.iface 300 v,.bool true]) w:=kCq Tryz.underlying134 kCU v 20 w
theorem caught225_hit (n:Int) (w:World) (hg:w.cell? ⟨0,0,none⟩=some (.iface 209 (.agg #[.pointer (some ⟨7,134,none⟩)]))) :
  Calls Tryz.prog 225 #[.iface 300 (.agg #[.int .i64 n])] w fun e w'=>e=.returned (.int .i64 n)∧Below w.heap.size w w':=by
 have hta:=as300_134;have hpl:=kAE w _ hg;have hh:=as_hitG as_ok300 n w.heap.size (.int .i64 0) (w.alloc (.cells #[.int .i64 0] 300)) ((kBt _ _ ⟨0,0,none⟩ hpl).trans hg) (zA4 _ _);go_enter Tryz.func225,Tryz.ntmps225;go_wp2_with fail;refine hh.mono ?_;rintro e w2 ⟨rfl,W,hb,rfl⟩;have hs2:=zA9 hb (zA4 w (.cells #[.int .i64 0] 300));have hs3:=zA7 hs2 0 (.int .i64 n);have c1:=zA1 hs3 0;have hfin:=(((kA3 _ w).alloc (kA2 _) (.cells #[.int .i64 0] 300)).trans (hb.mono kCV)).setCell (p:=⟨w.heap.size,0,none⟩) (kA2 _) (.int .i64 n);go_wp2;go_ret;exact⟨rfl,hfin⟩
theorem catch224_hit (p:Nat) (n:Int) (old:Value) (older:List PanicEntry) (w:World) (hp:w.heap[p]?=some (.cells #[old] 36 (0,0))) (hg:w.cell? ⟨0,0,none⟩=some (.iface 209 (.agg #[.pointer (some ⟨7,134,none⟩)]))) :
  CallsD Tryz.prog 224 #[.pointer (some ⟨p,0,none⟩)] (.panicking ({ v:=.iface 300 (.agg #[.int .i64 n]),recovered:=false } :: older)) w fun e u' w' =>
   e=.returned (.tuple #[])∧u'=.panicking ({ v:=.iface 300 (.agg #[.int .i64 n]),recovered:=true } :: older)∧w'.heap[p]?=some (.cells #[.int .i64 n] 36 (0,0))∧w.grownBy w' (some p):=by
 have hta:=caught225_hit n w hg;refine kC5 Tryz.func224 rfl fun c₀ cs hu=>?_
 apply kCB;simp[wpOpsS,go_sem,recoverD,hu,Tryz.ntmps224,Exit.thenS];refine hta.mono ?_;rintro e w' ⟨rfl,hb⟩;have hp2:=zA9 hb hp;have c0:=zA1 hp2 0;have f0:=zA2 hp2 0;have hfin:=zA7 hp2 0 (.int .i64 n);have hgr:w.grownBy (w'.setCell ⟨p,0,none⟩ (.int .i64 n)) (some p):=kA6 (kAe (kAF _ _) hb) (kAf _ _ _ _);simp[go_sem,c0,f0,Oper.upon,Result.andThen]
 cases c₀
 simp_all [bodyPostS,results,Tryz.results224]
theorem zFW (e:Int) (w:World):Calls Tryz.prog 255 #[.bool true,.int .i64 e] w fun en w'=>en=zBn 300 e∧w'=w:=by
 unfold zBn;go_enter Tryz.func255,Tryz.ntmps255;go_wp2;exact⟨rfl,rfl,rfl⟩
theorem zDe {s:ByteArray} (h:zCX s=true):Digs (zBr s).data.toList∧0<(zBr s).size:=by
 unfold zCX at h;simp only[kAj,kAN] at h;refine⟨fun c hc=>?_,h.1.1⟩;have:=kBi.1 h.2 c hc;unfold digC at this;simpa[kAj] using this
def zC8 (s:ByteArray):Int:=if zCX s=false then 1 else if 400<(zBr s).size then 13 else 0
theorem wtaken_form (s:ByteArray) (hs:s.size≤9223372036854775807) (h:zCX s=false) (w:World):Calls Tryz.prog 226 #[.string s] w fun e w'=>e=zBn 300 1∧Below w.heap.size w w':=by
 have hf:=kA1 (fun w=>zER s hs w);rw[h] at hf;unfold zBn;clear h;go_enter Tryz.func226,Tryz.ntmps226;go_wp2_with (go_at_call 256;refine (hf.out _).mono ?_;rintro e w1 ⟨rfl,hb1⟩);have hw1:=((kA3 _ w).alloc (kA2 _) (.cells #[.int .i64 0,.slice none 0 0] 234)).trans (hb1.mono kCV);have hy:=zFW 1;unfold zBn at hy;go_wp2_with (go_at_call 255;refine (hy _).mono ?_;rintro e wq ⟨rfl,hq⟩;subst wq);exact⟨rfl,rfl,hw1⟩
theorem wtaken_large (s:ByteArray) (hs:s.size≤9223372036854775807) (h:zCX s=true) (hl:400<(zBr s).size) (w:World):Calls Tryz.prog 226 #[.string s] w fun e w'=>e=zBn 300 13∧Below w.heap.size w w':=by
 have hf:=kA1 (fun w=>zER s hs w);rw[h] at hf;have htp:=kA1 (fun w=>zEF s w);have hdl:decide (400<((zBr s).size:Int))=true:=kA7 kCT;have htz:=zEh s;generalize zBr s=t at *;unfold zBn;clear h hl;have hb0:=(kA3 _ w).alloc (kA2 _) (.cells #[.int .i64 0,.slice none 0 0] 234);go_enter Tryz.func226,Tryz.ntmps226;go_wp2_with (go_at_call 256;refine (hf.out _).mono ?_;rintro e w1 ⟨rfl,hb1⟩);have hw1:=hb0.trans (hb1.mono kCV);have hn:=fail255_no 1;have hy:=zFW 13;unfold zBn at hy;go_wp2_with (first
  | (go_at_call 255;refine (hn _).mono ?_;rintro e wq ⟨rfl,hq⟩;subst wq;clear hn)
  | (go_at_call 124;refine (htp.out _).mono ?_;rintro e wq ⟨rfl,k,rfl⟩)
  | (go_at_call 255;refine (hy _).mono ?_;rintro e wq ⟨rfl,hq⟩;subst wq))
 exact⟨rfl,rfl,zA3 hw1 k⟩
theorem wtaken_ok (s:ByteArray) (hs:s.size≤9223372036854775807) (h:zCX s=true) (hl:(zBr s).size≤400) (w:World):Calls Tryz.prog 226 #[.string s] w fun e w'=>(∃v,e=.returned v)∧Below w.heap.size w w':=by
 have hf:=kA1 (fun w=>zER s hs w);rw[h] at hf;have htp:=kA1 (fun w=>zEF s w);obtain⟨d1,d2⟩:=zDe h;have hr:=kA1 (fun w=>kBl.1 (read_LN 9 s d1 d2 kCT w));have hdl:decide (400<((zBr s).size:Int))=false:=kA8 kCT;have htz:=zEh s;clear d1 d2;generalize numV s=z at *;generalize zBr s=t at *;clear h hl;have hh0:=zA4 w (.cells #[.int .i64 0,.slice none 0 0] 234);have hb0:=(kA3 _ w).alloc (kA2 _) (.cells #[.int .i64 0,.slice none 0 0] 234);go_enter Tryz.func226,Tryz.ntmps226;go_wp2_with (go_at_call 256;refine (hf.out _).mono ?_;rintro e w1 ⟨rfl,hb1⟩);have hw1:=hb0.trans (hb1.mono kCV);have hh1:=zA9 hb1 hh0;go_wp2_with (first
  | (go_at_call 255;refine (fail255_no _ _).mono ?_;rintro e wq ⟨rfl,hq⟩;subst wq)
  | (go_at_call 124;refine (htp.out _).mono ?_;rintro e wq ⟨rfl,k,rfl⟩))
 have hw2:Below w.heap.size w (w1.drewN k):=zA3 hw1 k;have hh2:(w1.drewN k).heap[w.heap.size]?=some (.cells #[.int .i64 0,.slice none 0 0] 234 (0,0)):=zAS hh1 k;generalize w1.drewN k=w2 at *;refine (hr.out _).mono ?_;rintro e w3 ⟨v,rfl,hv,hb3⟩;obtain⟨l,A,c,rfl,_⟩:=hv.out;have hh3:=zA9 hb3 hh2;have d0:=zA1 hh3 0;have d1:=zA1 hh3 1;have f0:=zA2 hh3 0;have f1:=zA2 hh3 1;have hw3:=hw2.trans (hb3.mono hw2.size);clear hv;go_wp2;exact kAi (zAg Tryz.results226 _ _ w.heap.size 234 _ (0,0) _ rfl (zBP _ _ hh3) Tryz.underlying234 rfl zBT) rfl ⟨⟨_,rfl⟩,(hw3.setCell (p:=⟨w.heap.size,0,none⟩) (kA2 _) _).setCell (p:=⟨w.heap.size,1,none⟩) (kA2 _) _⟩
theorem zEZ (s:ByteArray) (n:Int) (hn:∀w,Calls Tryz.prog 226 #[.string s] w fun e w'=>e=zBn 300 n∧Below w.heap.size w w') (w:World) (hS:Start w):Calls Tryz.prog 187 #[.string s] w fun e w'=>e=.returned (.int .i64 n)∧Below w.heap.size w w':=by
 have hmf:∀(fn:Fn) (first cap:Array Value) (w:World),(Instr.makeFunc fn first cap).run Tryz.prog w=.ok (.func fn first cap) w:=fun _ _ _ _=>rfl
 have hh0:=zA4 w (.cells #[.int .i64 0] 36);have hb0:=(kA3 _ w).alloc (kA2 _) (.cells #[.int .i64 0] 36);have hge:=(hS.below hb0).err;unfold zBn at hn;have HN:=kA1 hn;clear hn hS;go_enter_defers Tryz.func187,Tryz.ntmps187;go_wp2_with fail;refine (HN.out _).mono ?_;rintro e w1 ⟨rfl,hb1⟩;have hr1:=zA9 hb1 hh0;have hbw:=hb0.trans (hb1.mono kCV);have hg1:=zA0 hb1 hge;go_wp2;refine kBR (f:=224) (args:=#[.pointer (some ⟨w.heap.size,0,none⟩)]) kCV kD9 ?_;refine (catch224_hit w.heap.size n (.int .i64 0) [] w1 hr1 hg1).mono ?_;rintro e u w3 ⟨rfl,rfl,hs3,hg3⟩;have c4:w3.cell? ⟨w.heap.size,0,none⟩=some (.int .i64 n):=zA1 hs3 0;have hfin:Below w.heap.size w w3:=hbw.grown hg3 hbw.size (fun j e=>by injection e with e;omega);simp[Leaves,settle,results,Tryz.results187,go_sem,c4,hfin]
theorem wcheck_passes (s:ByteArray) (ht:∀w,Calls Tryz.prog 226 #[.string s] w fun e w'=>(∃v,e=.returned v)∧Below w.heap.size w w') (w:World):Calls Tryz.prog 187 #[.string s] w fun e w'=>e=.returned (.int .i64 0)∧Below w.heap.size w w':=by
 have hmf:∀(fn:Fn) (first cap:Array Value) (w:World),(Instr.makeFunc fn first cap).run Tryz.prog w=.ok (.func fn first cap) w:=fun _ _ _ _=>rfl
 have hh0:=zA4 w (.cells #[.int .i64 0] 36);have hb0:=(kA3 _ w).alloc (kA2 _) (.cells #[.int .i64 0] 36);have HT:=kA1 ht;clear ht;go_enter_defers Tryz.func187,Tryz.ntmps187;go_wp2_with fail;refine (HT.out _).mono ?_;rintro e w1 ⟨⟨v,rfl⟩,hb1⟩;have hr1:=zA9 hb1 hh0;have hbw:=hb0.trans (hb1.mono kCV);have c1:=zA1 hr1 0;have f1':=zA2 hr1 0;go_wp2;have hr2:=zA7 hr1 0 (.int .i64 0);have hbw2:=hbw.setCell (p:=⟨w.heap.size,0,none⟩) (kA2 _) (.int .i64 0);generalize w1.setCell ⟨w.heap.size,0,none⟩ (.int .i64 0)=w2 at *;refine kBR (f:=224) (args:=#[.pointer (some ⟨w.heap.size,0,none⟩)]) kCV kD9 ?_;refine (catch224_idle w.heap.size (.int .i64 0) w2 hr2).mono ?_;rintro e u w3 ⟨rfl,rfl,hw3⟩;have c4:w3.cell? ⟨w.heap.size,0,none⟩=some (.int .i64 0):=by rw[hw3];exact zA1 (zA7 hr2 0 (.int .i64 0)) 0
 have hfin:Below w.heap.size w w3:=by rw[hw3];exact hbw2.setCell (p:=⟨w.heap.size,0,none⟩) (kA2 _) _
 simp[Leaves,settle,results,Tryz.results187,go_sem,c4,hfin]
theorem zF0 (s:ByteArray) (hs:s.size≤9223372036854775807) (w:World) (hS:Start w):Calls Tryz.prog 187 #[.string s] w fun e w'=>e=.returned (.int .i64 (zC8 s))∧Below w.heap.size w w':=by
 unfold zC8;by_cases h:zCX s=false
 ·rw[kAa h];exact zEZ s 1 (fun w=>wtaken_form s hs h w) w hS
 ·have h':zCX s=true:=kDy
  rw[kA9 h];by_cases hl:400<(zBr s).size
  ·rw[kAa hl];exact zEZ s 13 (fun w=>wtaken_large s hs h' hl w) w hS
  ·rw[kA9 hl];exact wcheck_passes s (fun w=>wtaken_ok s hs h' kCT w) w
def chkR (r:S28):Int :=
 if zC8 r.f0=1∨zC8 r.f1=1∨negB r.f1=true∨r.f1=⟨#[48]⟩ then 1
 else if zC8 r.f0≠0∨zC8 r.f1≠0 then 13
 else if Int.gcd (numV r.f0) (numV r.f1)=1 then 0 else 1
def RPost (n:Int) (w:World) (e:Ending) (w':World):Prop:=Below w.heap.size w w'∧((n=0∧∃v,e=.returned v)∨(n≠0∧e=zBn 253 n))
theorem wchk_three (s:ByteArray):zC8 s=0∨zC8 s=1∨zC8 s=13:=by
 unfold zC8;split
 ·exact .inr (.inl rfl)
 ·split
  ·exact .inr (.inr rfl)
  ·exact .inl rfl
theorem zFu {s:ByteArray} (h:zC8 s≠1):zCX s=true:=by
 unfold zC8 at h;by_cases hf:zCX s=false
 ·rw[kAa hf] at h;exact absurd rfl h
 ·simpa using hf
theorem zD3 {s:ByteArray} (h:zC8 s=0):zCX s=true∧(zBr s).size≤400:=by
 have hf:=zFu (s:=s) (by rw[h];omega);refine⟨hf,?_⟩;unfold zC8 at h;rw[kA9 (by rw[hf];simp)] at h;by_cases hl:400<(zBr s).size
 ·rw[kAa hl] at h;cases h
 ·omega
theorem zFp {s:ByteArray} (h:zCX s=true):0<s.size:=by
 have h1:=(zDe h).2;have h2:=zEh s;omega
theorem neg_head {s:ByteArray} (h:0<s.size):(((s[0]'h).toNat:Int)==45)=negB s:=by
 unfold negB;have hl:s.data.toList=s[0]'h :: s.data.toList.tail:=by
  cases he:s.data.toList with
  | nil=>exfalso;have:s.size=s.data.toList.length:=rfl;rw[he,List.length_nil] at this;omega
  | cons c r =>
   have e:s[0]'h=c:=by show s.data.toList[0]'h=c;simp[he]
   rw[e];rfl
 rw[hl];simp only;rw[kCv,kAx,kAx,← kCO];constructor
 ·intro h;show (s[0]).toNat=45;omega
 ·intro h;rw[h];rfl
theorem str_eq (t u:ByteArray):(t.toList==u.toList)=decide (t=u):=by
 rw[kCv,kAx,kAN,kAR,kAR];constructor
 ·intro h;apply kBX;exact kBV.1 h
 ·intro h;rw[h]
theorem LN_step {W W':World} {z:Int} {v:Value} {R:Nat} {s t:ByteArray} {a b:Int} {B B2:Option Addr} {l c l2 c2:Nat} {ty:TypeId} (h:LN W z v)
  (hR:W.heap[R]?=some (.cells #[.string s,.string t,.int .i64 a,.slice B l c,.int .i64 b,.slice B2 l2 c2] ty (0,0))) (hk:∀p:Addr,p.block≠R→W'.cell? p=W.cell? p):LN W' z v:=by
 obtain⟨m,A,c',h1,h2,h3,h4,h5⟩:=h.out;refine⟨m,A,c',h1,h2,h3,?_,h5⟩;by_cases hn:m=[]
 ·subst hn;exact⟨h4.1,kCV,fun h=>by simp at h⟩
 ·obtain⟨ad,rfl,hc⟩:=C_cells h4 hn;refine zEb kCT (fun i hi=>?_);have h6:=hc i hi;rw[hk _ (num_ne6 h6 hR)];exact h6
theorem rtaken_calls (s t:ByteArray) (hs:s.size≤9223372036854775807) (ht:t.size≤9223372036854775807) (w:World) (hS:Start w) :
  Calls Tryz.prog 168 #[.agg #[.string s,.string t]] w (RPost (chkR ⟨s,t⟩) w):=by
 have HC1:Hid (∀w,Start w→Calls Tryz.prog 187 #[.string s] w fun e w'=>e=.returned (.int .i64 (zC8 s))∧Below w.heap.size w w'):=kA1 (fun w hS=>zF0 s hs w hS);have HC2:Hid (∀w,Start w→Calls Tryz.prog 187 #[.string t] w fun e w'=>e=.returned (.int .i64 (zC8 t))∧Below w.heap.size w w'):=kA1 (fun w hS=>zF0 t ht w hS);have HS:=kA1 hS;obtain⟨n,hn⟩:∃n,n=chkR ⟨s,t⟩:=⟨_,rfl⟩;rw[← hn];unfold chkR at hn;simp only at hn;have h3s:=wchk_three s;have h3t:=wchk_three t;have hfs:=@zD3 s;have hft:=@zD3 t;have hft1:=@zFu t;obtain⟨a,ha⟩:∃a,a=zC8 s:=⟨_,rfl⟩;obtain⟨b,hb⟩:∃b,b=zC8 t:=⟨_,rfl⟩;rw[← ha] at HC1 hn h3s hfs;rw[← hb] at HC2 hn h3t hft hft1;clear ha hb hS;replace hn:=kA1 hn;replace hfs:=kA1 hfs;replace hft:=kA1 hft;replace hft1:=kA1 hft1;obtain⟨X,hX⟩:∃X,X=((w.alloc (.cells #[.string s,.string t] 28)).alloc (.cells #[.string ⟨#[]⟩,.string ⟨#[]⟩,.int .i64 0,.slice none 0 0,.int .i64 0,.slice none 0 0] 236)):=⟨_,rfl⟩;have hb0:Below w.heap.size w X:=by rw[hX];exact ((kA3 _ w).alloc (kA2 _) _).alloc kCV _
 have h0:X.heap[w.heap.size]?=some (.cells #[.string s,.string t] 28 (0,0)):=by rw[hX];exact (kA4 _ _ _ kCV).trans (zA4 w _)
 have h1:X.heap[w.heap.size+1]?=some (.cells #[.string ⟨#[]⟩,.string ⟨#[]⟩,.int .i64 0,.slice none 0 0,.int .i64 0,.slice none 0 0] 236 (0,0)):=by rw[hX];exact zAu _ _ _ kCV
 go_enter Tryz.func168,Tryz.ntmps168;go_wp2_with fail;rw[← hX];clear hX;have K:X.drew.cell? ⟨w.heap.size,0,none⟩=some (.string s)∧X.drew.cell? ⟨w.heap.size,1,none⟩=some (.string t):=⟨zA1 h0 0,zA1 h0 1⟩;have J0:X.drew.heap[w.heap.size]?=some (.cells #[.string s,.string t] 28 (0,0)):=h0;have J1:X.drew.heap[w.heap.size+1]?=some (.cells #[.string ⟨#[]⟩,.string ⟨#[]⟩,.int .i64 0,.slice none 0 0,.int .i64 0,.slice none 0 0] 236 (0,0)):=h1;have BW:=hb0.drew;clear h0 h1 hb0
 go_region_held3 (fun w':World=>w'.cell? ⟨w.heap.size,0,none⟩=some (.string s)∧w'.cell? ⟨w.heap.size,1,none⟩=some (.string t)) (first | with_reducible exact K) (first
  | (go_at_call 187;refine (HC1.out _ (HS.out.below BW)).mono ?_;rintro e wq ⟨rfl,hq⟩;clear HC1;have K:=And.intro (zA0 hq K.1) (zA0 hq K.2);have J0:=zA9 hq J0;have J1:=zA9 hq J1;have BW:=BW.trans (hq.mono BW.size))
  | (go_at_call 187;refine (HC2.out _ (HS.out.below BW)).mono ?_;rintro e wq ⟨rfl,hq⟩;clear HC2;have K:=And.intro (zA0 hq K.1) (zA0 hq K.2);have J0:=zA9 hq J0;have J1:=zA9 hq J1;have BW:=BW.trans (hq.mono BW.size)))
 have q0:=K.1;have q1:=K.2;have q2:=zA5 J0;clear K;have hy1:=kA1 (zFX 1);have hy13:=kA1 (zFX 13);unfold zBn at hy1 hy13;by_cases ha1:a=1
 ·have e1:(a==1)=true:=by rw[ha1];rfl
  have hn1:n=1:=by rw[hn.out,kAa (.inl ha1)]
  clear ha1 h3s;go_wp2_with (go_at_call 188;refine (hy1.out _).mono ?_;rintro e wr ⟨rfl,hr⟩;subst wr);exact⟨rfl,BW,.inr ⟨kCT,rfl⟩⟩
 have e1:(a==1)=false:=zAF ha1;by_cases hb1:b=1
 ·have e2:(b==1)=true:=by rw[hb1];rfl
  have hn1:n=1:=by rw[hn.out,kAa (.inr (.inl hb1))]
  clear hb1 h3t ha1 h3s;go_wp2_with (go_at_call 188;refine (hy1.out _).mono ?_;rintro e wr ⟨rfl,hr⟩;subst wr);exact⟨rfl,BW,.inr ⟨kCT,rfl⟩⟩
 have e2:(b==1)=false:=zAF hb1;have htf:=hft1.out hb1;have htp:=zFp htf;have hth:=neg_head htp
 cases hng:negB t
 case true =>
  rw[hng] at hth;have hn1:n=1:=by rw[hn.out,kAa (.inr (.inr (.inl hng)))]
  clear hb1 h3t ha1 h3s htf hng;go_wp2_with (go_at_call 188;refine (hy1.out _).mono ?_;rintro e wr ⟨rfl,hr⟩;subst wr);exact⟨rfl,BW,.inr ⟨kCT,rfl⟩⟩
 rw[hng] at hth;have hse:=str_eq t ⟨#[48]⟩;have h48:(⟨#[48]⟩:ByteArray).toList=[48]:=by rw[kAR]
 rw[h48] at hse;have hse2:(t==⟨#[48]⟩)=decide (t=⟨#[48]⟩):=by rw[beq_toListBytes];exact str_eq t _
 by_cases htz:t=⟨#[48]⟩
 ·have hn1:n=1:=by rw[hn.out,kAa (.inr (.inr (.inr htz)))]
  rw[kA7 htz] at hse hse2;clear hb1 h3t ha1 h3s htf hng htz h48;go_wp2_with (go_at_call 188;refine (hy1.out _).mono ?_;rintro e wr ⟨rfl,hr⟩;subst wr);exact⟨rfl,BW,.inr ⟨kCT,rfl⟩⟩
 rw[kA8 htz] at hse hse2;have hno:¬(a=1∨b=1∨negB t=true∨t=⟨#[48]⟩):=by
  rintro (h | h | h | h)
  ·exact ha1 h
  ·exact hb1 h
  ·rw[hng] at h;cases h
  ·exact htz h
 have hn2:=kA1 (hn.out.trans (kA9 hno));clear hno hng htz h48;have hnc:=kA1 (zES 1);by_cases ha0:a=0
 case neg =>
  have e3:(a != 0)=true:=by simp[ha0]
  have hn1:n=13:=by rw[hn2.out,kAa (.inl ha0)]
  clear ha1 hb1 h3s h3t htf ha0;go_wp2_with (first
   | (go_at_call 188;refine (hnc.out _).mono ?_;rintro e wr ⟨rfl,hr⟩;subst wr;clear hnc)
   | (go_at_call 188;refine (hy13.out _).mono ?_;rintro e wr ⟨rfl,hr⟩;subst wr))
  exact⟨rfl,BW,.inr ⟨kCT,rfl⟩⟩
 by_cases hb0:b=0
 case neg =>
  have e3:(a != 0)=false:=by simp[ha0]
  have e4:(b != 0)=true:=by simp[hb0]
  have hn1:n=13:=by rw[hn2.out,kAa (.inr hb0)]
  clear ha1 hb1 h3s h3t htf ha0 hb0;go_wp2_with (first
   | (go_at_call 188;refine (hnc.out _).mono ?_;rintro e wr ⟨rfl,hr⟩;subst wr;clear hnc)
   | (go_at_call 188;refine (hy13.out _).mono ?_;rintro e wr ⟨rfl,hr⟩;subst wr))
  exact⟨rfl,BW,.inr ⟨kCT,rfl⟩⟩
 have e3:(a != 0)=false:=by simp[ha0]
 have e4:(b != 0)=false:=by simp[hb0]
 obtain⟨sf,sl⟩:=hfs.out ha0;obtain⟨tf,tl⟩:=hft.out hb0;have hn3:=kA1 (hn2.out.trans (kA9 (by rintro (h | h)<;>omega)));obtain⟨x,hx⟩:∃x,x=numV s:=⟨_,rfl⟩;obtain⟨y,hy⟩:∃y,y=numV t:=⟨_,rfl⟩;rw[← hx,← hy] at hn3;obtain⟨sx,hsx⟩:∃k,k=Int.sign x:=⟨_,rfl⟩;obtain⟨sy,hsy⟩:∃k,k=Int.sign y:=⟨_,rfl⟩;have HR1:Hid (∀w,Calls Tryz.prog 189 #[.string s] w fun e w'=>∃A m c,e=.returned (.agg #[.int .i64 sx,.slice A m c])∧LN w' x (.agg #[.int .i64 sx,.slice A m c])∧Below w.heap.size w w'):=kA1 (fun w =>
  (kBl.1 (read_LN 9 s (zDe sf).1 (zDe sf).2 kCT w)).mono fun _ _ ⟨v,h1,h2,h3⟩=>by
   rw[← hx] at h2;obtain⟨l,A,c,rfl,_⟩:=h2.out;rw[← hsx] at h1 h2;exact⟨A,l.length,c,h1,h2,h3⟩)
 have HR2:Hid (∀w,Calls Tryz.prog 189 #[.string t] w fun e w'=>∃A m c,e=.returned (.agg #[.int .i64 sy,.slice A m c])∧LN w' y (.agg #[.int .i64 sy,.slice A m c])∧Below w.heap.size w w'):=kA1 (fun w =>
  (kBl.1 (read_LN 9 t (zDe tf).1 (zDe tf).2 kCT w)).mono fun _ _ ⟨v,h1,h2,h3⟩=>by
   rw[← hy] at h2;obtain⟨l,A,c,rfl,_⟩:=h2.out;rw[← hsy] at h1 h2;exact⟨A,l.length,c,h1,h2,h3⟩)
 clear ha1 hb1 h3s h3t htf ha0 hb0 sf sl tf tl hx hy hsx hsy hn hn2 hfs hft hft1 hy13;have hnc2:=kA1 (zES 13);go_wp2_with (first
  | (go_at_call 188;refine (hnc.out _).mono ?_;rintro e wr ⟨rfl,hr⟩;subst wr;clear hnc)
  | (go_at_call 188;refine (hnc2.out _).mono ?_;rintro e wr ⟨rfl,hr⟩;subst wr;clear hnc2))
 have N0:(wq.alloc (.cells #[.string s,.string t,.int .i64 0,.slice none 0 0,.int .i64 0,.slice none 0 0] 236)).heap[wq.heap.size]?=some (.cells #[.string s,.string t,.int .i64 0,.slice none 0 0,.int .i64 0,.slice none 0 0] 236 (0,0)):=zA4 wq _;have BN:=BW.alloc BW.size (.cells #[.string s,.string t,.int .i64 0,.slice none 0 0,.int .i64 0,.slice none 0 0] 236);have J1':=J1;have J1:(wq.alloc (.cells #[.string s,.string t,.int .i64 0,.slice none 0 0,.int .i64 0,.slice none 0 0] 236)).heap[w.heap.size+1]?=some (.cells #[.string ⟨#[]⟩,.string ⟨#[]⟩,.int .i64 0,.slice none 0 0,.int .i64 0,.slice none 0 0] 236 (0,0)):=(kA4 _ _ _ (zA5 J1')).trans J1';have hlt:w.heap.size+1<wq.heap.size:=zA5 J1';clear J1' J0;generalize wq.alloc (.cells #[.string s,.string t,.int .i64 0,.slice none 0 0,.int .i64 0,.slice none 0 0] 236)=Y at *;generalize wq.heap.size=q at *;have KS2:Hid (∀(W:World) (a b:Value),(W.cell? ⟨q,0,none⟩=some (.string s)∧W.cell? ⟨q,1,none⟩=some (.string t)) →
   (((W.setCell ⟨q,2,none⟩ a).setCell ⟨q,3,none⟩ b).cell? ⟨q,0,none⟩=some (.string s)∧((W.setCell ⟨q,2,none⟩ a).setCell ⟨q,3,none⟩ b).cell? ⟨q,1,none⟩=some (.string t))) :=
  kA1 (fun W a b h=>⟨(kBb _ _ _ _ kCV).trans ((kBb _ _ _ _ kCV).trans h.1),(kBb _ _ _ _ kCV).trans ((kBb _ _ _ _ kCV).trans h.2)⟩)
 have KS3:Hid (∀(W:World) (a b:Value),(W.cell? ⟨q,0,none⟩=some (.string s)∧W.cell? ⟨q,1,none⟩=some (.string t)) →
   (((W.setCell ⟨q,4,none⟩ a).setCell ⟨q,5,none⟩ b).cell? ⟨q,0,none⟩=some (.string s)∧((W.setCell ⟨q,4,none⟩ a).setCell ⟨q,5,none⟩ b).cell? ⟨q,1,none⟩=some (.string t))) :=
  kA1 (fun W a b h=>⟨(kBb _ _ _ _ kCV).trans ((kBb _ _ _ _ kCV).trans h.1),(kBb _ _ _ _ kCV).trans ((kBb _ _ _ _ kCV).trans h.2)⟩)
 have K:Y.drew.cell? ⟨q,0,none⟩=some (.string s)∧Y.drew.cell? ⟨q,1,none⟩=some (.string t):=⟨zA1 N0 0,zA1 N0 1⟩;have N0:Y.drew.heap[q]?=some (.cells #[.string s,.string t,.int .i64 0,.slice none 0 0,.int .i64 0,.slice none 0 0] 236 (0,0)):=N0;have J1:Y.drew.heap[w.heap.size+1]?=some (.cells #[.string ⟨#[]⟩,.string ⟨#[]⟩,.int .i64 0,.slice none 0 0,.int .i64 0,.slice none 0 0] 236 (0,0)):=J1;have BN:=BN.drew;clear q0 q1 q2 hth hse hse2 e1 e2 e3 e4 BW hq;have hlt:=kA1 hlt
 go_region_held3 (fun w':World=>w'.cell? ⟨q,0,none⟩=some (.string s)∧w'.cell? ⟨q,1,none⟩=some (.string t)) (first | with_reducible exact K | with_reducible exact KS2.out _ _ _ K | with_reducible exact KS3.out _ _ _ (KS2.out _ _ _ K)) (first
  | (go_at_call 189;refine (HR1.out _).mono ?_;rintro e wa ⟨A1,m1,c1,rfl,L1,hqa⟩;clear HR1;have K:=And.intro (zA0 hqa K.1) (zA0 hqa K.2);have N0:=zA9 hqa N0;have J1:=zA9 hqa J1;have BN:=BN.trans (hqa.mono BN.size))
  | (go_at_call 189;refine (HR2.out _).mono ?_;rintro e wb ⟨A2,m2,c2,rfl,L2,hqb⟩;clear HR2;have L1:=L1.below hqb;have K:=And.intro (zA0 hqb K.1) (zA0 hqb K.2);have N0:=zA9 hqb N0;have J1:=zA9 hqb J1;have BN:=BN.trans (hqb.mono BN.size);have e0:=zA2 N0 2;have e1:=zA2 N0 3;have f0:=zA2 N0 4;have f1:=zA2 N0 5;have b0:=zA1 N0 2;have b1:=zA1 N0 3;have b2:=zA1 N0 4;have b3:=zA1 N0 5))
 have hbq:w.heap.size≤q:=by have:=hlt.out;omega
 have Z0:((((wb.setCell ⟨q,2,none⟩ (.int .i64 sx)).setCell ⟨q,3,none⟩ (.slice A1 m1 c1)).setCell ⟨q,4,none⟩ (.int .i64 sy)).setCell ⟨q,5,none⟩ (.slice A2 m2 c2)).heap[q]?=some (.cells #[.string s,.string t,.int .i64 sx,.slice A1 m1 c1,.int .i64 sy,.slice A2 m2 c2] 236 (0,0)):=zA7 (zA7 (zA7 (zA7 N0 2 _) 3 _) 4 _) 5 _;have Z1:((((wb.setCell ⟨q,2,none⟩ (.int .i64 sx)).setCell ⟨q,3,none⟩ (.slice A1 m1 c1)).setCell ⟨q,4,none⟩ (.int .i64 sy)).setCell ⟨q,5,none⟩ (.slice A2 m2 c2)).heap[w.heap.size+1]?=some (.cells #[.string ⟨#[]⟩,.string ⟨#[]⟩,.int .i64 0,.slice none 0 0,.int .i64 0,.slice none 0 0] 236 (0,0)):=by
  have hq:q≠w.heap.size+1:=by have:=hlt.out;omega
  exact (kA5 _ _ _ _ (kCo hq)).trans ((kA5 _ _ _ _ (kCo hq)).trans ((kA5 _ _ _ _ (kCo hq)).trans ((kA5 _ _ _ _ (kCo hq)).trans J1)))
 have ZB:Below w.heap.size w ((((wb.setCell ⟨q,2,none⟩ (.int .i64 sx)).setCell ⟨q,3,none⟩ (.slice A1 m1 c1)).setCell ⟨q,4,none⟩ (.int .i64 sy)).setCell ⟨q,5,none⟩ (.slice A2 m2 c2)):=(((BN.setCell (p:=⟨q,2,none⟩) hbq _).setCell (p:=⟨q,3,none⟩) hbq _).setCell (p:=⟨q,4,none⟩) hbq _).setCell (p:=⟨q,5,none⟩) hbq _;have hkk:∀p:Addr,p.block≠q→((((wb.setCell ⟨q,2,none⟩ (.int .i64 sx)).setCell ⟨q,3,none⟩ (.slice A1 m1 c1)).setCell ⟨q,4,none⟩ (.int .i64 sy)).setCell ⟨q,5,none⟩ (.slice A2 m2 c2)).cell? p=wb.cell? p:=fun p hp=>by
  rw[kAy _ _ _ _ (kCo hp),kAy _ _ _ _ (kCo hp),kAy _ _ _ _ (kCo hp),kAy _ _ _ _ (kCo hp)]
 have M1:=LN_step L1 N0 hkk;have M2:=LN_step L2 N0 hkk;clear K N0 J1 BN b0 b1 b2 b3 e0 e1 f0 f1 KS2 KS3 hkk L1 L2;generalize ((((wb.setCell ⟨q,2,none⟩ (.int .i64 sx)).setCell ⟨q,3,none⟩ (.slice A1 m1 c1)).setCell ⟨q,4,none⟩ (.int .i64 sy)).setCell ⟨q,5,none⟩ (.slice A2 m2 c2))=Z at *;have z2:=zA1 Z0 2;have z3:=zA1 Z0 3;have z4:=zA1 Z0 4;have z5:=zA1 Z0 5;have hcm:=common_calls x y _ _ Z M1 M2;clear M1 M2;obtain⟨g,hg⟩:∃g:Int,g=(Int.gcd x y:Int):=⟨_,rfl⟩;rw[← hg] at hcm;replace hg:=kA1 hg;go_wp2_with fail;refine hcm.mono ?_;rintro e W1 ⟨v1,rfl,hv1,hB1⟩;clear hcm;go_wp2_with fail;refine (of1_LN _).mono ?_;rintro e W2 ⟨v2,rfl,hv2,hB2⟩;have hor:=order_LN g 1 v1 v2 W2 (hv1.below hB2) hv2;clear hv1 hv2;go_wp2_with fail;refine hor.mono ?_;rintro e W3 ⟨rfl,hB3⟩;clear hor;have Y0:=zA9 hB3 (zA9 hB2 (zA9 hB1 Z0));have Y1:=zA9 hB3 (zA9 hB2 (zA9 hB1 Z1));have YB:=((ZB.trans (hB1.mono ZB.size)));have YB:=((YB.trans (hB2.mono YB.size)));have YB:=((YB.trans (hB3.mono YB.size)));clear hB1 hB2 hB3 ZB Z0 Z1 z2 z3 z4 z5 hqa hqb;by_cases hg1:Int.gcd x y=1
 ·have hn1:n=0:=by rw[hn3.out,kAa hg1]
  have hg2:g=1:=by rw[hg.out,hg1];rfl
  have c11:cmpI g 1=0:=by rw[hg2];rfl
  rw[c11];clear hg2 hg1 c11;have d0:=zA1 Y0 0;have d1:=zA1 Y0 1;have d2:=zA1 Y0 2;have d3:=zA1 Y0 3;have d4:=zA1 Y0 4;have d5:=zA1 Y0 5;have r0:=zA1 Y1 0;have r1:=zA1 Y1 1;have r2:=zA1 Y1 2;have r3:=zA1 Y1 3;have r4:=zA1 Y1 4;have r5:=zA1 Y1 5;have k0:=zA2 Y1 0;have k1:=zA2 Y1 1;have k2:=zA2 Y1 2;have k3:=zA2 Y1 3;have k4:=zA2 Y1 4;have k5:=zA2 Y1 5;replace hn1:=kA1 hn1;go_wp2_with (go_at_call 188;refine (zES _ _).mono ?_;rintro e wr ⟨rfl,hr⟩;subst wr);refine kAi (zAg Tryz.results168 _ _ (w.heap.size+1) 236 _ (0,0) _ rfl (zA7 (zA7 (zA7 (zA7 (zA7 (zA7 Y1 0 _) 1 _) 2 _) 3 _) 4 _) 5 _) Tryz.underlying236 rfl size236) rfl ⟨?_,.inl ⟨hn1.out,_,rfl⟩⟩;exact (((((YB.setCell (p:=⟨w.heap.size+1,0,none⟩) kCV _).setCell (p:=⟨w.heap.size+1,1,none⟩) kCV _).setCell (p:=⟨w.heap.size+1,2,none⟩) kCV _).setCell (p:=⟨w.heap.size+1,3,none⟩) kCV _).setCell (p:=⟨w.heap.size+1,4,none⟩) kCV _).setCell (p:=⟨w.heap.size+1,5,none⟩) kCV _
 ·have hn1:n=1:=by rw[hn3.out,kA9 hg1]
  have hg2:g≠1:=by rw[hg.out];omega
  have c11:(cmpI g 1 != 0)=true:=by rw[kCR];exact fun h=>hg2 (cmpI_zero h)
  clear hg2 hg1;generalize cmpI g 1=cc at *;go_wp2_with (go_at_call 188;refine (hy1.out _).mono ?_;rintro e wr ⟨rfl,hr⟩;subst wr);exact⟨rfl,YB,.inr ⟨kCT,rfl⟩⟩
theorem zBd (s t:ByteArray) (hs:s.size≤9223372036854775807) (ht:t.size≤9223372036854775807) (w:World) (hS:Start w) :
  Calls Tryz.prog 141 #[.agg #[.string s,.string t]] w fun e w'=>e=.returned (.int .i64 (chkR ⟨s,t⟩))∧Below w.heap.size w w':=by
 have hmf:∀(fn:Fn) (first cap:Array Value) (w:World),(Instr.makeFunc fn first cap).run Tryz.prog w=.ok (.func fn first cap) w:=fun _ _ _ _=>rfl
 have HT:=kA1 (fun w hS=>rtaken_calls s t hs ht w hS);obtain⟨n,hn⟩:∃n,n=chkR ⟨s,t⟩:=⟨_,rfl⟩;rw[← hn] at HT⊢;replace hn:=kA1 hn;have hb0:=((kA3 _ w).alloc (kA2 _) (.cells #[.string s,.string t] 28)).alloc kCV (.cells #[.int .i64 0] 36);have hh1:((w.alloc (.cells #[.string s,.string t] 28)).alloc (.cells #[.int .i64 0] 36)).heap[w.heap.size+1]?=some (.cells #[.int .i64 0] 36 (0,0)):=zAu _ _ _ kCV;have hS1:=hS.below hb0;have hge:=hS1.err;go_enter_defers Tryz.func141,Tryz.ntmps141;go_wp2_with fail;refine (HT.out _ hS1).mono ?_;rintro e w1 ⟨hb1,hcase⟩;have hr1:=zA9 hb1 hh1;have hbw:=hb0.trans (hb1.mono kD8);have hg1:=zA0 hb1 hge;rcases hcase with⟨h0,v,rfl⟩ | ⟨h0,he⟩
 ·subst h0;have c1:=zA1 hr1 0;have f1':=zA2 hr1 0;go_wp2;have hr2:=zA7 hr1 0 (.int .i64 0);have hbw2:=hbw.setCell (p:=⟨w.heap.size+1,0,none⟩) kCV (.int .i64 0);generalize w1.setCell ⟨w.heap.size+1,0,none⟩ (.int .i64 0)=w2 at *;refine kBR (f:=166) (args:=#[.pointer (some ⟨w.heap.size+1,0,none⟩)]) kCV kD9 ?_;refine (catch166_idle (w.heap.size+1) (.int .i64 0) w2 hr2).mono ?_;rintro e u w3 ⟨rfl,rfl,hw3⟩;have c4:w3.cell? ⟨w.heap.size+1,0,none⟩=some (.int .i64 0):=by rw[hw3];exact zA1 (zA7 hr2 0 (.int .i64 0)) 0
  have hfin:Below w.heap.size w w3:=by rw[hw3];exact hbw2.setCell (p:=⟨w.heap.size+1,0,none⟩) kCV _
  simp[Leaves,settle,results,Tryz.results141,go_sem,c4,hfin]
 ·unfold zBn at he;subst he;replace h0:=kA1 h0;go_wp2;refine kBR (f:=166) (args:=#[.pointer (some ⟨w.heap.size+1,0,none⟩)]) kCV kD9 ?_;refine (catch166_hit (w.heap.size+1) n (.int .i64 0) [] w1 hr1 hg1).mono ?_;rintro e u w3 ⟨rfl,rfl,hs3,hg3⟩;have c4:w3.cell? ⟨w.heap.size+1,0,none⟩=some (.int .i64 n):=zA1 hs3 0;have hfin:Below w.heap.size w w3:=hbw.grown hg3 hbw.size (fun j e=>by injection e with e;omega);simp[Leaves,settle,results,Tryz.results141,go_sem,c4,hfin]
theorem part28_0 (a b:Value) (w:World):(part 9 #[a,b] 0).run Tryz.prog w=.ok a w:=kCU
theorem part28_1 (a b:Value) (w:World):(part 9 #[a,b] 1).run Tryz.prog w=.ok b w:=kCU
theorem eq28 (a b c d:ByteArray) (w:World):(Op.equalIn 10000 28 (.agg #[.string a,.string b]) (.agg #[.string c,.string d])).run Tryz.prog w=.ok (a.toList==c.toList&&b.toList==d.toList) w :=
 eqA_of Tryz.underlying28 kCU (eqf_cons rfl (part28_0 _ _ _) (part28_0 _ _ _) (run_equalIn_string w _ _ _ _ Tryz.underlying9) (eqf_last rfl (part28_1 _ _ _) (part28_1 _ _ _) (run_equalIn_string w _ _ _ _ Tryz.underlying9)))
theorem str_nil {s:ByteArray} (h:s.toList=[]):s=⟨#[]⟩:=by
 rw[kAR] at h;apply kBX;exact kBV.1 h
theorem nil_eq (s:ByteArray):(s.toList==(⟨#[]⟩:ByteArray).toList)=decide (s=⟨#[]⟩):=str_eq s ⟨#[]⟩
def zDX (n:Int) (w:World) (e:Ending) (w':World):Prop:=Below w.heap.size w w'∧((n=0∧e=.returned (.tuple #[]))∨(n≠0∧e=zBn 159 n))
def zDF (x:S31):Bool :=
 if x.f0=0 then !decide (x.f2=⟨#[]⟩) && !zCw x.f2
 else if x.f0=1∨x.f0=10∨x.f0=11∨x.f0=13∨x.f0=14 then !zC0 x.f2
 else !decide (x.f2=⟨#[]⟩)
def tailE (x:S31):Int :=
 if zDF x=true then 4
 else if x.f3<zAw x.f0∨zAx x.f0<x.f3 then 2
 else 0
open Classical in
noncomputable def midE (x:S31):Int :=
 if x.f0=0 then (if chkR x.f1≠0 then chkR x.f1 else if negB x.f1.f0=true then 2 else tailE x)
 else if x.f1≠z28 then 1 else tailE x
noncomputable def zDC (x:S31):Int :=
 if x.f0<0∨14<x.f0 then 9
 else if (x.f4.length:Int)<zAL x.f0 then 8
 else if zAN x.f0<(x.f4.length:Int) then 7
 else midE x
theorem zAf (e:Int) (w:World):Calls Tryz.prog 67 #[.bool true,.int .i64 e] w fun en w'=>en=.panicked [{ v:=.iface 159 (.agg #[.int .i64 e]),recovered:=false }]∧w'=w:=fail_yes e w
theorem look_out (x:S31) (v5:Value) (w:World) (A:Option Addr) (c:Nat) (hv5:v5=.slice A x.f4.length c) (h:x.f0<0∨14<x.f0):Calls Tryz.prog 102 #[exV x v5] w (zDX 9 w):=by
 obtain⟨op,num,name,size,xs⟩:=x;subst hv5;simp only at *;have hin:=zBA op 0 14;have hb:(decide (0≤op)&&decide (op≤14))=false:=by
  rw[kAQ];rcases h with h | h
  ·exact .inl (kA8 kCT)
  ·exact .inr (kA8 kCT)
 rw[hb] at hin;clear h hb;unfold exV;simp only;go_enter Tryz.func102,Tryz.ntmps102;go_wp2_with (first
  | (go_at_call 104;(with_reducible refine (hin _).mono ?_);rintro e wq ⟨rfl,hq⟩;subst wq)
  | (go_at_call 67;(with_reducible refine (zAq _ _).mono ?_);rintro e wq ⟨rfl,hq⟩;subst wq)
  | (go_at_call 67;(with_reducible refine (zAf _ _).mono ?_);rintro e wq ⟨rfl,hq⟩;subst wq))
 exact⟨rfl,(kA3 _ w).alloc (kA2 _) _,.inr ⟨kCT,rfl⟩⟩
theorem look_args (x:S31) (v5:Value) (w:World) (A:Option Addr) (c:Nat) (hv5:v5=.slice A x.f4.length c) (h0:0≤x.f0) (h1:x.f0≤14) (h:(x.f4.length:Int)<zAL x.f0∨zAN x.f0<(x.f4.length:Int)):Calls Tryz.prog 102 #[exV x v5] w (zDX (if (x.f4.length:Int)<zAL x.f0 then 8 else 7) w):=by
 obtain⟨op,num,name,size,xs⟩:=x;subst hv5;simp only at *;have hin:=zBA op 0 14;rw[kA7 h0,kA7 h1] at hin;have hA:=zAG op;generalize zAL op=aL at *;generalize zAN op=aH at *;clear h0 h1;unfold exV;simp only;by_cases hlt:(xs.length:Int)<aL
 ·rw[kAa hlt];have l1:decide ((xs.length:Int)<aL)=true:=kA7 hlt;clear h hlt;go_enter Tryz.func102,Tryz.ntmps102;go_wp2_with (first
   | (go_at_call 104;(with_reducible refine (hin _).mono ?_);rintro e wq ⟨rfl,hq⟩;subst wq)
   | (go_at_call 67;(with_reducible refine (zAq _ _).mono ?_);rintro e wq ⟨rfl,hq⟩;subst wq)
   | (go_at_call 67;(with_reducible refine (zAf _ _).mono ?_);rintro e wq ⟨rfl,hq⟩;subst wq))
  refine (hA _).mono ?_;rintro e w1 ⟨rfl,hb1⟩;have hx1:=zA9 hb1 (zA4 w (.cells #[.int .i64 op,.string num.f0,.string num.f1,.string name,.int .i64 size,.slice A xs.length c] 31));obtain⟨⟨q0,q1,q2,q3,q4,q5⟩,_,xl⟩:=zA6 hx1;have hbw:Below w.heap.size w w1:=((kA3 _ w).alloc (kA2 _) _).trans (hb1.mono kCV);have hbw':=hbw.alloc hbw.size (.cells #[.int .i64 aL,.int .i64 aH] 198);have HX:=kA1 hx1;clear hx1;go_wp2_with (first
  | (go_at_call 104;(with_reducible refine (hin _).mono ?_);rintro e wq ⟨rfl,hq⟩;subst wq)
  | (go_at_call 67;(with_reducible refine (zAq _ _).mono ?_);rintro e wq ⟨rfl,hq⟩;subst wq)
  | (go_at_call 67;(with_reducible refine (zAf _ _).mono ?_);rintro e wq ⟨rfl,hq⟩;subst wq))
  exact⟨rfl,hbw',.inr ⟨kCT,rfl⟩⟩
 ·rw[kA9 hlt];have l1:decide ((xs.length:Int)<aL)=false:=kA8 hlt;have l2:decide (aH<(xs.length:Int))=true:=kA7 kCT;clear h hlt;go_enter Tryz.func102,Tryz.ntmps102;go_wp2_with (first
   | (go_at_call 104;(with_reducible refine (hin _).mono ?_);rintro e wq ⟨rfl,hq⟩;subst wq)
   | (go_at_call 67;(with_reducible refine (zAq _ _).mono ?_);rintro e wq ⟨rfl,hq⟩;subst wq)
   | (go_at_call 67;(with_reducible refine (zAf _ _).mono ?_);rintro e wq ⟨rfl,hq⟩;subst wq))
  refine (hA _).mono ?_;rintro e w1 ⟨rfl,hb1⟩;have hx1:=zA9 hb1 (zA4 w (.cells #[.int .i64 op,.string num.f0,.string num.f1,.string name,.int .i64 size,.slice A xs.length c] 31));obtain⟨⟨q0,q1,q2,q3,q4,q5⟩,_,xl⟩:=zA6 hx1;have hbw:Below w.heap.size w w1:=((kA3 _ w).alloc (kA2 _) _).trans (hb1.mono kCV);have hbw':=hbw.alloc hbw.size (.cells #[.int .i64 aL,.int .i64 aH] 198);have HX:=kA1 hx1;clear hx1;go_wp2_with (first
  | (go_at_call 104;(with_reducible refine (hin _).mono ?_);rintro e wq ⟨rfl,hq⟩;subst wq)
  | (go_at_call 67;(with_reducible refine (zAq _ _).mono ?_);rintro e wq ⟨rfl,hq⟩;subst wq)
  | (go_at_call 67;(with_reducible refine (zAf _ _).mono ?_);rintro e wq ⟨rfl,hq⟩;subst wq))
  exact⟨rfl,hbw',.inr ⟨kCT,rfl⟩⟩
theorem look_named_bad (x:S31) (v5:Value) (w:World) (A:Option Addr) (c:Nat) (hv5:v5=.slice A x.f4.length c) (h0:0≤x.f0) (h1:x.f0≤14) (hlo:zAL x.f0≤x.f4.length) (hhi:(x.f4.length:Int)≤zAN x.f0)
  (hop:x.f0=1∨x.f0=10∨x.f0=11∨x.f0=13∨x.f0=14) (hnum:x.f1=z28) (hsz1:x.f2.size≤9223372036854775807) (hname:zC0 x.f2=false):Calls Tryz.prog 102 #[exV x v5] w (zDX 4 w):=by
 obtain⟨op,num,name,size,xs⟩:=x;subst hv5;simp only at *;have hin:=zBA op 0 14;rw[kA7 h0,kA7 h1] at hin;have l1:decide ((xs.length:Int)<zAL op)=false:=kA8 kCT;have l2:decide (zAN op<(xs.length:Int))=false:=kA8 kCT;have hz:=zE1 op;have E0:=zD0;have E9:=zCZ;have E99:=zCj;have hA:=zAG op;have hZ:=zBh op;have hin2:=zBA size (zAw op) (zAx op);subst hnum;have hN:=fun w=>name_any name w hsz1
 rw[hname] at hN;generalize zAL op=aL at *;generalize zAN op=aH at *;generalize zAw op=sL at *;generalize zAx op=sH at *;clear h0 h1 hlo hhi hz hZ hin2 E0 E9 E99 hname;unfold exV z28;simp only;rcases hop with rfl | rfl | rfl | rfl | rfl
 all_goals
  go_enter Tryz.func102,Tryz.ntmps102;go_wp2_with (first
   | (go_at_call 104;(with_reducible refine (hin _).mono ?_);rintro e wq ⟨rfl,hq⟩;subst wq)
   | (go_at_call 67;(with_reducible refine (zAq _ _).mono ?_);rintro e wq ⟨rfl,hq⟩;subst wq)
   | (go_at_call 67;(with_reducible refine (zAf _ _).mono ?_);rintro e wq ⟨rfl,hq⟩;subst wq))
  refine (hA _).mono ?_;rintro e w1 ⟨rfl,hb1⟩;have hx1:=zA9 hb1 (zA4 w (.cells #[.int .i64 _,.string ⟨#[]⟩,.string ⟨#[]⟩,.string name,.int .i64 size,.slice A xs.length c] 31));obtain⟨⟨q0,q1,q2,q3,q4,q5⟩,_,xl⟩:=zA6 hx1;have hbw:Below w.heap.size w w1:=((kA3 _ w).alloc (kA2 _) _).trans (hb1.mono kCV);have hbw':=hbw.alloc hbw.size (.cells #[.int .i64 aL,.int .i64 aH] 198);have HX:=kA1 hx1;clear hx1;go_wp2_with (first
  | (go_at_call 104;(with_reducible refine (hin _).mono ?_);rintro e wq ⟨rfl,hq⟩;subst wq)
  | (go_at_call 67;(with_reducible refine (zAq _ _).mono ?_);rintro e wq ⟨rfl,hq⟩;subst wq)
  | (go_at_call 67;(with_reducible refine (zAf _ _).mono ?_);rintro e wq ⟨rfl,hq⟩;subst wq))
  refine (hN _).mono ?_;rintro e w4 ⟨rfl,hb4⟩;have hbw4:=hbw'.trans (hb4.mono hbw'.size);go_wp2_with (first
  | (go_at_call 104;(with_reducible refine (hin _).mono ?_);rintro e wq ⟨rfl,hq⟩;subst wq)
  | (go_at_call 67;(with_reducible refine (zAq _ _).mono ?_);rintro e wq ⟨rfl,hq⟩;subst wq)
  | (go_at_call 67;(with_reducible refine (zAf _ _).mono ?_);rintro e wq ⟨rfl,hq⟩;subst wq))
  exact⟨rfl,hbw4,.inr ⟨kCT,rfl⟩⟩
theorem zFS (x:S31) (v5:Value) (w:World) (A:Option Addr) (c:Nat) (hv5:v5=.slice A x.f4.length c) (h0:0≤x.f0) (h1:x.f0≤14) (hlo:zAL x.f0≤x.f4.length) (hhi:(x.f4.length:Int)≤zAN x.f0)
  (hop:x.f0=1∨x.f0=10∨x.f0=11∨x.f0=13∨x.f0=14) (hnum:x.f1=z28) (hsz1:x.f2.size≤9223372036854775807) (hname:zC0 x.f2=true) (n:Int) (hN:Hid (n=if x.f3<zAw x.f0∨zAx x.f0<x.f3 then 2 else 0)):Calls Tryz.prog 102 #[exV x v5] w (zDX n w):=by
 obtain⟨op,num,name,size,xs⟩:=x;subst hv5;simp only at *;have hin:=zBA op 0 14;rw[kA7 h0,kA7 h1] at hin;have l1:decide ((xs.length:Int)<zAL op)=false:=kA8 kCT;have l2:decide (zAN op<(xs.length:Int))=false:=kA8 kCT;have hz:=zE1 op;have E0:=zD0;have E9:=zCZ;have E99:=zCj;have hA:=zAG op;have hZ:=zBh op;have hin2:=zBA size (zAw op) (zAx op);subst hnum;have hNm:=fun w=>name_any name w hsz1
 rw[hname] at hNm;generalize zAL op=aL at *;generalize zAN op=aH at *;generalize zAw op=sL at *;generalize zAx op=sH at *;clear h0 h1 hlo hhi hname;unfold exV z28;simp only;rcases hop with rfl | rfl | rfl | rfl | rfl
 all_goals
  go_enter Tryz.func102,Tryz.ntmps102;go_wp2_with (first
   | (go_at_call 104;(with_reducible refine (hin _).mono ?_);rintro e wq ⟨rfl,hq⟩;subst wq)
   | (go_at_call 67;(with_reducible refine (zAq _ _).mono ?_);rintro e wq ⟨rfl,hq⟩;subst wq)
   | (go_at_call 67;(with_reducible refine (zAf _ _).mono ?_);rintro e wq ⟨rfl,hq⟩;subst wq))
  refine (hA _).mono ?_;rintro e w1 ⟨rfl,hb1⟩;have hx1:=zA9 hb1 (zA4 w (.cells #[.int .i64 _,.string ⟨#[]⟩,.string ⟨#[]⟩,.string name,.int .i64 size,.slice A xs.length c] 31));obtain⟨⟨q0,q1,q2,q3,q4,q5⟩,_,xl⟩:=zA6 hx1;have hbw:Below w.heap.size w w1:=((kA3 _ w).alloc (kA2 _) _).trans (hb1.mono kCV);have hbw':=hbw.alloc hbw.size (.cells #[.int .i64 aL,.int .i64 aH] 198);have HX:=kA1 hx1;clear hx1;go_wp2_with (first
  | (go_at_call 104;(with_reducible refine (hin _).mono ?_);rintro e wq ⟨rfl,hq⟩;subst wq)
  | (go_at_call 67;(with_reducible refine (zAq _ _).mono ?_);rintro e wq ⟨rfl,hq⟩;subst wq)
  | (go_at_call 67;(with_reducible refine (zAf _ _).mono ?_);rintro e wq ⟨rfl,hq⟩;subst wq))
  refine (hNm _).mono ?_;rintro e w4 ⟨rfl,hb4⟩;have HXa:=kA1 (zA9 hb4 ((kA4 w1 (.cells #[.int .i64 aL,.int .i64 aH] 198) _ xl).trans HX.out));have HYa:=kA1 (zA9 hb4 (zA4 w1 (.cells #[.int .i64 aL,.int .i64 aH] 198)));have hbwa:=hbw'.trans (hb4.mono hbw'.size);obtain⟨⟨r0,r1,r2,r3,r4,r5⟩,_,xl4⟩:=zA6 HXa.out;go_wp2_with (first
  | (go_at_call 104;(with_reducible refine (hin _).mono ?_);rintro e wq ⟨rfl,hq⟩;subst wq)
  | (go_at_call 67;(with_reducible refine (zAq _ _).mono ?_);rintro e wq ⟨rfl,hq⟩;subst wq)
  | (go_at_call 67;(with_reducible refine (zAf _ _).mono ?_);rintro e wq ⟨rfl,hq⟩;subst wq))
  refine (hZ _).mono ?_;rintro e w2 ⟨rfl,hb2⟩;have hx2:=zA9 hb2 HXa.out;have hy2:=zA9 hb2 HYa.out;have hbw2:=hbwa.trans (hb2.mono hbwa.size);have hw1:=hbw.size;obtain⟨⟨p0,p1,p2,p3,p4,p5⟩,_,xl2⟩:=zA6 hx2;have y0:=zA1 hy2 0;have y1:=zA1 hy2 1;have z0:=zA2 hy2 0;have z1:=zA2 hy2 1;have yl:=zA5 hy2;have hneq:=kB4 xl;clear hx2 hy2 HX hb1 hb2 hb4 r0 r1 r2 r3 r4 r5;by_cases hsz:size<sL∨sH<size
  ·have hn:n=2:=by rw[hN.out,kAa hsz]
   have hsb:(decide (sL≤size)&&decide (size≤sH))=false:=by
    rw[kAQ];rcases hsz with h | h
    ·exact .inl (kA8 kCT)
    ·exact .inr (kA8 kCT)
   rw[hsb] at hin2;subst hn;clear hsb;rcases hz with⟨rfl,rfl⟩ | ⟨rfl,rfl⟩ | ⟨rfl,rfl⟩
   ·have hs:(size==0)=false:=zAF kCT;have hs':(size != 0)=true:=by rw[bne,hs];rfl
    clear hsz;go_wp2_with (first
     | (go_at_call 104;(with_reducible refine (hin2 _).mono ?_);rintro e wq ⟨rfl,hq⟩;subst wq)
     | (go_at_call 67;(with_reducible refine (zAq _ _).mono ?_);rintro e wq ⟨rfl,hq⟩;subst wq)
     | (go_at_call 67;(with_reducible refine (zAf _ _).mono ?_);rintro e wq ⟨rfl,hq⟩;subst wq))
    exact⟨rfl,(hbw2.setCell (p:=⟨w1.heap.size,0,none⟩) kCX _).setCell (p:=⟨w1.heap.size,1,none⟩) kCX _,.inr ⟨kCT,rfl⟩⟩
   all_goals
    clear hsz;go_wp2_with (first
     | (go_at_call 104;(with_reducible refine (hin2 _).mono ?_);rintro e wq ⟨rfl,hq⟩;subst wq)
     | (go_at_call 67;(with_reducible refine (zAq _ _).mono ?_);rintro e wq ⟨rfl,hq⟩;subst wq)
     | (go_at_call 67;(with_reducible refine (zAf _ _).mono ?_);rintro e wq ⟨rfl,hq⟩;subst wq))
    exact⟨rfl,(hbw2.setCell (p:=⟨w1.heap.size,0,none⟩) kCX _).setCell (p:=⟨w1.heap.size,1,none⟩) kCX _,.inr ⟨kCT,rfl⟩⟩
  ·have hn:n=0:=by rw[hN.out,kA9 hsz]
   rw[kA7 (show sL≤size by omega),kA7 (show size≤sH by omega)] at hin2;subst hn;rcases hz with⟨rfl,rfl⟩ | ⟨rfl,rfl⟩ | ⟨rfl,rfl⟩
   ·have hs:(size==0)=true:=by rw[kAx];omega
    have hs':(size != 0)=false:=by rw[bne,hs];rfl
    clear hsz;go_wp2_with (first
     | (go_at_call 104;(with_reducible refine (hin2 _).mono ?_);rintro e wq ⟨rfl,hq⟩;subst wq)
     | (go_at_call 67;(with_reducible refine (zAq _ _).mono ?_);rintro e wq ⟨rfl,hq⟩;subst wq)
     | (go_at_call 67;(with_reducible refine (zAf _ _).mono ?_);rintro e wq ⟨rfl,hq⟩;subst wq))
    exact kBd (kB0 rfl _ _ _) rfl ⟨(hbw2.setCell (p:=⟨w1.heap.size,0,none⟩) kCX _).setCell (p:=⟨w1.heap.size,1,none⟩) kCX _,.inl ⟨rfl,rfl⟩⟩
   all_goals
    clear hsz;go_wp2_with (first
     | (go_at_call 104;(with_reducible refine (hin2 _).mono ?_);rintro e wq ⟨rfl,hq⟩;subst wq)
     | (go_at_call 67;(with_reducible refine (zAq _ _).mono ?_);rintro e wq ⟨rfl,hq⟩;subst wq)
     | (go_at_call 67;(with_reducible refine (zAf _ _).mono ?_);rintro e wq ⟨rfl,hq⟩;subst wq))
    exact kBd (kB0 rfl _ _ _) rfl ⟨(hbw2.setCell (p:=⟨w1.heap.size,0,none⟩) kCX _).setCell (p:=⟨w1.heap.size,1,none⟩) kCX _,.inl ⟨rfl,rfl⟩⟩
theorem look_lit_chk (x:S31) (v5:Value) (w:World) (A:Option Addr) (c:Nat) (hv5:v5=.slice A x.f4.length c) (h0:0≤x.f0) (h1:x.f0≤14) (hlo:zAL x.f0≤x.f4.length) (hhi:(x.f4.length:Int)≤zAN x.f0)
  (hop:x.f0=0) (hS:Start w) (hs1:x.f1.f0.size≤9223372036854775807) (hs2:x.f1.f1.size≤9223372036854775807) (m:Int) (hm:m=chkR x.f1) (hm0:m≠0):Calls Tryz.prog 102 #[exV x v5] w (zDX m w):=by
 obtain⟨op,num,name,size,xs⟩:=x;subst hv5;simp only at *;have hin:=zBA op 0 14;rw[kA7 h0,kA7 h1] at hin;have l1:decide ((xs.length:Int)<zAL op)=false:=kA8 kCT;have l2:decide (zAN op<(xs.length:Int))=false:=kA8 kCT;have hz:=zE1 op;have E0:=zD0;have E9:=zCZ;have E99:=zCj;have hA:=zAG op;have hZ:=zBh op;have hin2:=zBA size (zAw op) (zAx op);obtain⟨nu,de⟩:=num;simp only at *;subst hop;have hC:=fun w hS=>zBd nu de hs1 hs2 w hS
 rw[← hm] at hC;have hmb:(m != 0)=true:=by simp[hm0]
 replace hm0:=kA1 hm0;clear hm;generalize zAL 0=aL at *;generalize zAN 0=aH at *;generalize zAw 0=sL at *;generalize zAx 0=sH at *;clear h0 h1 hlo hhi hz hZ hin2 E0 E9 E99;unfold exV;simp only;go_enter Tryz.func102,Tryz.ntmps102;go_wp2_with (first
  | (go_at_call 104;(with_reducible refine (hin _).mono ?_);rintro e wq ⟨rfl,hq⟩;subst wq)
  | (go_at_call 67;(with_reducible refine (zAq _ _).mono ?_);rintro e wq ⟨rfl,hq⟩;subst wq)
  | (go_at_call 67;(with_reducible refine (zAf _ _).mono ?_);rintro e wq ⟨rfl,hq⟩;subst wq))
 refine (hA _).mono ?_;rintro e w1 ⟨rfl,hb1⟩;have hx1:=zA9 hb1 (zA4 w (.cells #[.int .i64 0,.string nu,.string de,.string name,.int .i64 size,.slice A xs.length c] 31));obtain⟨⟨q0,q1,q2,q3,q4,q5⟩,_,xl⟩:=zA6 hx1;have hbw:Below w.heap.size w w1:=((kA3 _ w).alloc (kA2 _) _).trans (hb1.mono kCV);have hbw':=hbw.alloc hbw.size (.cells #[.int .i64 aL,.int .i64 aH] 198);have HX:=kA1 hx1;clear hx1;go_wp2_with (first
  | (go_at_call 104;(with_reducible refine (hin _).mono ?_);rintro e wq ⟨rfl,hq⟩;subst wq)
  | (go_at_call 67;(with_reducible refine (zAq _ _).mono ?_);rintro e wq ⟨rfl,hq⟩;subst wq)
  | (go_at_call 67;(with_reducible refine (zAf _ _).mono ?_);rintro e wq ⟨rfl,hq⟩;subst wq))
 refine (hC _ (hS.below hbw')).mono ?_;rintro e w4 ⟨rfl,hb4⟩;have HXa:=kA1 (zA9 hb4 ((kA4 w1 (.cells #[.int .i64 aL,.int .i64 aH] 198) _ xl).trans HX.out));have HYa:=kA1 (zA9 hb4 (zA4 w1 (.cells #[.int .i64 aL,.int .i64 aH] 198)));have hbwa:=hbw'.trans (hb4.mono hbw'.size);obtain⟨⟨r0,r1,r2,r3,r4,r5⟩,_,xl4⟩:=zA6 HXa.out;go_wp2_with (first
  | (go_at_call 104;(with_reducible refine (hin _).mono ?_);rintro e wq ⟨rfl,hq⟩;subst wq)
  | (go_at_call 67;(with_reducible refine (zAq _ _).mono ?_);rintro e wq ⟨rfl,hq⟩;subst wq)
  | (go_at_call 67;(with_reducible refine (zAf _ _).mono ?_);rintro e wq ⟨rfl,hq⟩;subst wq))
 exact⟨rfl,hbwa,.inr ⟨hm0.out,rfl⟩⟩
theorem look_lit_neg (x:S31) (v5:Value) (w:World) (A:Option Addr) (c:Nat) (hv5:v5=.slice A x.f4.length c) (h0:0≤x.f0) (h1:x.f0≤14) (hlo:zAL x.f0≤x.f4.length) (hhi:(x.f4.length:Int)≤zAN x.f0)
  (hop:x.f0=0) (hS:Start w) (hs1:x.f1.f0.size≤9223372036854775807) (hs2:x.f1.f1.size≤9223372036854775807) (hm:chkR x.f1=0) (hp:0<x.f1.f0.size) (hneg:(((x.f1.f0[0]'hp).toNat:Int)==45)=true):Calls Tryz.prog 102 #[exV x v5] w (zDX 2 w):=by
 obtain⟨op,num,name,size,xs⟩:=x;subst hv5;simp only at *;have hin:=zBA op 0 14;rw[kA7 h0,kA7 h1] at hin;have l1:decide ((xs.length:Int)<zAL op)=false:=kA8 kCT;have l2:decide (zAN op<(xs.length:Int))=false:=kA8 kCT;have hz:=zE1 op;have E0:=zD0;have E9:=zCZ;have E99:=zCj;have hA:=zAG op;have hZ:=zBh op;have hin2:=zBA size (zAw op) (zAx op);obtain⟨nu,de⟩:=num;simp only at *;subst hop;have hC:=fun w hS=>zBd nu de hs1 hs2 w hS
 rw[hm] at hC;clear hm;generalize zAL 0=aL at *;generalize zAN 0=aH at *;generalize zAw 0=sL at *;generalize zAx 0=sH at *;clear h0 h1 hlo hhi hz hZ hin2 E0 E9 E99;unfold exV;simp only;go_enter Tryz.func102,Tryz.ntmps102;go_wp2_with (first
  | (go_at_call 104;(with_reducible refine (hin _).mono ?_);rintro e wq ⟨rfl,hq⟩;subst wq)
  | (go_at_call 67;(with_reducible refine (zAq _ _).mono ?_);rintro e wq ⟨rfl,hq⟩;subst wq)
  | (go_at_call 67;(with_reducible refine (zAf _ _).mono ?_);rintro e wq ⟨rfl,hq⟩;subst wq))
 refine (hA _).mono ?_;rintro e w1 ⟨rfl,hb1⟩;have hx1:=zA9 hb1 (zA4 w (.cells #[.int .i64 0,.string nu,.string de,.string name,.int .i64 size,.slice A xs.length c] 31));obtain⟨⟨q0,q1,q2,q3,q4,q5⟩,_,xl⟩:=zA6 hx1;have hbw:Below w.heap.size w w1:=((kA3 _ w).alloc (kA2 _) _).trans (hb1.mono kCV);have hbw':=hbw.alloc hbw.size (.cells #[.int .i64 aL,.int .i64 aH] 198);have HX:=kA1 hx1;clear hx1;go_wp2_with (first
  | (go_at_call 104;(with_reducible refine (hin _).mono ?_);rintro e wq ⟨rfl,hq⟩;subst wq)
  | (go_at_call 67;(with_reducible refine (zAq _ _).mono ?_);rintro e wq ⟨rfl,hq⟩;subst wq)
  | (go_at_call 67;(with_reducible refine (zAf _ _).mono ?_);rintro e wq ⟨rfl,hq⟩;subst wq))
 refine (hC _ (hS.below hbw')).mono ?_;rintro e w4 ⟨rfl,hb4⟩;have HXa:=kA1 (zA9 hb4 ((kA4 w1 (.cells #[.int .i64 aL,.int .i64 aH] 198) _ xl).trans HX.out));have HYa:=kA1 (zA9 hb4 (zA4 w1 (.cells #[.int .i64 aL,.int .i64 aH] 198)));have hbwa:=hbw'.trans (hb4.mono hbw'.size);obtain⟨⟨r0,r1,r2,r3,r4,r5⟩,_,xl4⟩:=zA6 HXa.out;go_wp2_with (first
  | (go_at_call 104;(with_reducible refine (hin _).mono ?_);rintro e wq ⟨rfl,hq⟩;subst wq)
  | (go_at_call 67;(with_reducible refine (zAq _ _).mono ?_);rintro e wq ⟨rfl,hq⟩;subst wq)
  | (go_at_call 67;(with_reducible refine (zAf _ _).mono ?_);rintro e wq ⟨rfl,hq⟩;subst wq))
 exact⟨rfl,hbwa,.inr ⟨kCT,rfl⟩⟩
theorem look_lit_bad (x:S31) (v5:Value) (w:World) (A:Option Addr) (c:Nat) (hv5:v5=.slice A x.f4.length c) (h0:0≤x.f0) (h1:x.f0≤14) (hlo:zAL x.f0≤x.f4.length) (hhi:(x.f4.length:Int)≤zAN x.f0)
  (hop:x.f0=0) (hS:Start w) (hs1:x.f1.f0.size≤9223372036854775807) (hs2:x.f1.f1.size≤9223372036854775807) (hm:chkR x.f1=0) (hp:0<x.f1.f0.size) (hneg:(((x.f1.f0[0]'hp).toNat:Int)==45)=false) (hs3:x.f2.size<9223372036854775807) (hne:x.f2≠⟨#[]⟩) (hub:zCw x.f2=false):Calls Tryz.prog 102 #[exV x v5] w (zDX 4 w):=by
 obtain⟨op,num,name,size,xs⟩:=x;subst hv5;simp only at *;have hin:=zBA op 0 14;rw[kA7 h0,kA7 h1] at hin;have l1:decide ((xs.length:Int)<zAL op)=false:=kA8 kCT;have l2:decide (zAN op<(xs.length:Int))=false:=kA8 kCT;have hz:=zE1 op;have E0:=zD0;have E9:=zCZ;have E99:=zCj;have hA:=zAG op;have hZ:=zBh op;have hin2:=zBA size (zAw op) (zAx op);obtain⟨nu,de⟩:=num;simp only at *;subst hop;have hC:=fun w hS=>zBd nu de hs1 hs2 w hS
 rw[hm] at hC;clear hm;have hU:=fun w=>unit_any name hs3 w
 rw[hub] at hU;have hsome:name.toList.isEmpty=false:=by
  cases h:name.toList with
  | nil=>exact absurd (str_nil h) hne
  | cons _ _=>rfl
 generalize zAL 0=aL at *;generalize zAN 0=aH at *;generalize zAw 0=sL at *;generalize zAx 0=sH at *;clear h0 h1 hlo hhi hz hZ hin2 E0 E9 E99 hne hub;unfold exV;simp only;go_enter Tryz.func102,Tryz.ntmps102;go_wp2_with (first
  | (go_at_call 104;(with_reducible refine (hin _).mono ?_);rintro e wq ⟨rfl,hq⟩;subst wq)
  | (go_at_call 67;(with_reducible refine (zAq _ _).mono ?_);rintro e wq ⟨rfl,hq⟩;subst wq)
  | (go_at_call 67;(with_reducible refine (zAf _ _).mono ?_);rintro e wq ⟨rfl,hq⟩;subst wq))
 refine (hA _).mono ?_;rintro e w1 ⟨rfl,hb1⟩;have hx1:=zA9 hb1 (zA4 w (.cells #[.int .i64 0,.string nu,.string de,.string name,.int .i64 size,.slice A xs.length c] 31));obtain⟨⟨q0,q1,q2,q3,q4,q5⟩,_,xl⟩:=zA6 hx1;have hbw:Below w.heap.size w w1:=((kA3 _ w).alloc (kA2 _) _).trans (hb1.mono kCV);have hbw':=hbw.alloc hbw.size (.cells #[.int .i64 aL,.int .i64 aH] 198);have HX:=kA1 hx1;clear hx1;go_wp2_with (first
  | (go_at_call 104;(with_reducible refine (hin _).mono ?_);rintro e wq ⟨rfl,hq⟩;subst wq)
  | (go_at_call 67;(with_reducible refine (zAq _ _).mono ?_);rintro e wq ⟨rfl,hq⟩;subst wq)
  | (go_at_call 67;(with_reducible refine (zAf _ _).mono ?_);rintro e wq ⟨rfl,hq⟩;subst wq))
 refine (hC _ (hS.below hbw')).mono ?_;rintro e w4 ⟨rfl,hb4⟩;have HXa:=kA1 (zA9 hb4 ((kA4 w1 (.cells #[.int .i64 aL,.int .i64 aH] 198) _ xl).trans HX.out));have HYa:=kA1 (zA9 hb4 (zA4 w1 (.cells #[.int .i64 aL,.int .i64 aH] 198)));have hbwa:=hbw'.trans (hb4.mono hbw'.size);obtain⟨⟨r0,r1,r2,r3,r4,r5⟩,_,xl4⟩:=zA6 HXa.out;go_wp2_with (first
  | (go_at_call 104;(with_reducible refine (hin _).mono ?_);rintro e wq ⟨rfl,hq⟩;subst wq)
  | (go_at_call 67;(with_reducible refine (zAq _ _).mono ?_);rintro e wq ⟨rfl,hq⟩;subst wq)
  | (go_at_call 67;(with_reducible refine (zAf _ _).mono ?_);rintro e wq ⟨rfl,hq⟩;subst wq))
 refine (hU _).mono ?_;rintro e w5 ⟨rfl,hb5⟩;have hbw5:=hbwa.trans (hb5.mono hbwa.size);go_wp2_with (first
  | (go_at_call 104;(with_reducible refine (hin _).mono ?_);rintro e wq ⟨rfl,hq⟩;subst wq)
  | (go_at_call 67;(with_reducible refine (zAq _ _).mono ?_);rintro e wq ⟨rfl,hq⟩;subst wq)
  | (go_at_call 67;(with_reducible refine (zAf _ _).mono ?_);rintro e wq ⟨rfl,hq⟩;subst wq))
 exact⟨rfl,hbw5,.inr ⟨kCT,rfl⟩⟩
theorem look_lit_unit (x:S31) (v5:Value) (w:World) (A:Option Addr) (c:Nat) (hv5:v5=.slice A x.f4.length c) (h0:0≤x.f0) (h1:x.f0≤14) (hlo:zAL x.f0≤x.f4.length) (hhi:(x.f4.length:Int)≤zAN x.f0)
  (hop:x.f0=0) (hS:Start w) (hs1:x.f1.f0.size≤9223372036854775807) (hs2:x.f1.f1.size≤9223372036854775807) (hm:chkR x.f1=0) (hp:0<x.f1.f0.size) (hneg:(((x.f1.f0[0]'hp).toNat:Int)==45)=false) (hs3:x.f2.size<9223372036854775807) (hne:x.f2≠⟨#[]⟩) (hub:zCw x.f2=true) (n:Int) (hN:Hid (n=if x.f3<zAw x.f0∨zAx x.f0<x.f3 then 2 else 0)):Calls Tryz.prog 102 #[exV x v5] w (zDX n w):=by
 obtain⟨op,num,name,size,xs⟩:=x;subst hv5;simp only at *;have hin:=zBA op 0 14;rw[kA7 h0,kA7 h1] at hin;have l1:decide ((xs.length:Int)<zAL op)=false:=kA8 kCT;have l2:decide (zAN op<(xs.length:Int))=false:=kA8 kCT;have hz:=zE1 op;have E0:=zD0;have E9:=zCZ;have E99:=zCj;have hA:=zAG op;have hZ:=zBh op;have hin2:=zBA size (zAw op) (zAx op);obtain⟨nu,de⟩:=num;simp only at *;subst hop;have hC:=fun w hS=>zBd nu de hs1 hs2 w hS
 rw[hm] at hC;clear hm;have hU:=fun w=>unit_any name hs3 w
 rw[hub] at hU;have hsome:name.toList.isEmpty=false:=by
  cases h:name.toList with
  | nil=>exact absurd (str_nil h) hne
  | cons _ _=>rfl
 generalize zAL 0=aL at *;generalize zAN 0=aH at *;generalize zAw 0=sL at *;generalize zAx 0=sH at *;clear h0 h1 hlo hhi hne hub;unfold exV;simp only;go_enter Tryz.func102,Tryz.ntmps102;go_wp2_with (first
  | (go_at_call 104;(with_reducible refine (hin _).mono ?_);rintro e wq ⟨rfl,hq⟩;subst wq)
  | (go_at_call 67;(with_reducible refine (zAq _ _).mono ?_);rintro e wq ⟨rfl,hq⟩;subst wq)
  | (go_at_call 67;(with_reducible refine (zAf _ _).mono ?_);rintro e wq ⟨rfl,hq⟩;subst wq))
 refine (hA _).mono ?_;rintro e w1 ⟨rfl,hb1⟩;have hx1:=zA9 hb1 (zA4 w (.cells #[.int .i64 0,.string nu,.string de,.string name,.int .i64 size,.slice A xs.length c] 31));obtain⟨⟨q0,q1,q2,q3,q4,q5⟩,_,xl⟩:=zA6 hx1;have hbw:Below w.heap.size w w1:=((kA3 _ w).alloc (kA2 _) _).trans (hb1.mono kCV);have hbw':=hbw.alloc hbw.size (.cells #[.int .i64 aL,.int .i64 aH] 198);have HX:=kA1 hx1;clear hx1;go_wp2_with (first
  | (go_at_call 104;(with_reducible refine (hin _).mono ?_);rintro e wq ⟨rfl,hq⟩;subst wq)
  | (go_at_call 67;(with_reducible refine (zAq _ _).mono ?_);rintro e wq ⟨rfl,hq⟩;subst wq)
  | (go_at_call 67;(with_reducible refine (zAf _ _).mono ?_);rintro e wq ⟨rfl,hq⟩;subst wq))
 refine (hC _ (hS.below hbw')).mono ?_;rintro e w4 ⟨rfl,hb4⟩;have HXa:=kA1 (zA9 hb4 ((kA4 w1 (.cells #[.int .i64 aL,.int .i64 aH] 198) _ xl).trans HX.out));have HYa:=kA1 (zA9 hb4 (zA4 w1 (.cells #[.int .i64 aL,.int .i64 aH] 198)));have hbwa:=hbw'.trans (hb4.mono hbw'.size);obtain⟨⟨r0,r1,r2,r3,r4,r5⟩,_,xl4⟩:=zA6 HXa.out;go_wp2_with (first
  | (go_at_call 104;(with_reducible refine (hin _).mono ?_);rintro e wq ⟨rfl,hq⟩;subst wq)
  | (go_at_call 67;(with_reducible refine (zAq _ _).mono ?_);rintro e wq ⟨rfl,hq⟩;subst wq)
  | (go_at_call 67;(with_reducible refine (zAf _ _).mono ?_);rintro e wq ⟨rfl,hq⟩;subst wq))
 refine (hU _).mono ?_;rintro e w5 ⟨rfl,hb5⟩;have HXb:=kA1 (zA9 hb5 HXa.out);have HYb:=kA1 (zA9 hb5 HYa.out);have hbwb:=hbwa.trans (hb5.mono hbwa.size);obtain⟨⟨s0,s1,s2,s3,s4,s5⟩,_,xl5⟩:=zA6 HXb.out;clear r0 r1 r2 r3 r4 r5 HXa HYa;go_wp2_with (first
  | (go_at_call 104;(with_reducible refine (hin _).mono ?_);rintro e wq ⟨rfl,hq⟩;subst wq)
  | (go_at_call 67;(with_reducible refine (zAq _ _).mono ?_);rintro e wq ⟨rfl,hq⟩;subst wq)
  | (go_at_call 67;(with_reducible refine (zAf _ _).mono ?_);rintro e wq ⟨rfl,hq⟩;subst wq))
 refine (hZ _).mono ?_;rintro e w2 ⟨rfl,hb2⟩;have hx2:=zA9 hb2 HXb.out;have hy2:=zA9 hb2 HYb.out;have hbw2:=hbwb.trans (hb2.mono hbwb.size);have hw1:=hbw.size;obtain⟨⟨p0,p1,p2,p3,p4,p5⟩,_,xl2⟩:=zA6 hx2;have y0:=zA1 hy2 0;have y1:=zA1 hy2 1;have z0:=zA2 hy2 0;have z1:=zA2 hy2 1;have yl:=zA5 hy2;have hneq:=kB4 xl;clear hx2 hy2 HX hb1 hb2 hb4 hb5 s0 s1 s2 s3 s4 s5;by_cases hsz:size<sL∨sH<size
 ·have hn:n=2:=by rw[hN.out,kAa hsz]
  have hsb:(decide (sL≤size)&&decide (size≤sH))=false:=by
   rw[kAQ];rcases hsz with h | h
   ·exact .inl (kA8 kCT)
   ·exact .inr (kA8 kCT)
  rw[hsb] at hin2;subst hn;clear hsb;rcases hz with⟨rfl,rfl⟩ | ⟨rfl,rfl⟩ | ⟨rfl,rfl⟩
  ·have hs:(size==0)=false:=zAF kCT;have hs':(size != 0)=true:=by rw[bne,hs];rfl
   clear hsz;go_wp2_with (first
    | (go_at_call 104;(with_reducible refine (hin2 _).mono ?_);rintro e wq ⟨rfl,hq⟩;subst wq)
    | (go_at_call 67;(with_reducible refine (zAq _ _).mono ?_);rintro e wq ⟨rfl,hq⟩;subst wq)
    | (go_at_call 67;(with_reducible refine (zAf _ _).mono ?_);rintro e wq ⟨rfl,hq⟩;subst wq))
   exact⟨rfl,(hbw2.setCell (p:=⟨w1.heap.size,0,none⟩) kCX _).setCell (p:=⟨w1.heap.size,1,none⟩) kCX _,.inr ⟨kCT,rfl⟩⟩
  all_goals
   clear hsz;go_wp2_with (first
    | (go_at_call 104;(with_reducible refine (hin2 _).mono ?_);rintro e wq ⟨rfl,hq⟩;subst wq)
    | (go_at_call 67;(with_reducible refine (zAq _ _).mono ?_);rintro e wq ⟨rfl,hq⟩;subst wq)
    | (go_at_call 67;(with_reducible refine (zAf _ _).mono ?_);rintro e wq ⟨rfl,hq⟩;subst wq))
   exact⟨rfl,(hbw2.setCell (p:=⟨w1.heap.size,0,none⟩) kCX _).setCell (p:=⟨w1.heap.size,1,none⟩) kCX _,.inr ⟨kCT,rfl⟩⟩
 ·have hn:n=0:=by rw[hN.out,kA9 hsz]
  rw[kA7 (show sL≤size by omega),kA7 (show size≤sH by omega)] at hin2;subst hn;rcases hz with⟨rfl,rfl⟩ | ⟨rfl,rfl⟩ | ⟨rfl,rfl⟩
  ·have hs:(size==0)=true:=by rw[kAx];omega
   have hs':(size != 0)=false:=by rw[bne,hs];rfl
   clear hsz;go_wp2_with (first
    | (go_at_call 104;(with_reducible refine (hin2 _).mono ?_);rintro e wq ⟨rfl,hq⟩;subst wq)
    | (go_at_call 67;(with_reducible refine (zAq _ _).mono ?_);rintro e wq ⟨rfl,hq⟩;subst wq)
    | (go_at_call 67;(with_reducible refine (zAf _ _).mono ?_);rintro e wq ⟨rfl,hq⟩;subst wq))
   exact kBd (kB0 rfl _ _ _) rfl ⟨(hbw2.setCell (p:=⟨w1.heap.size,0,none⟩) kCX _).setCell (p:=⟨w1.heap.size,1,none⟩) kCX _,.inl ⟨rfl,rfl⟩⟩
  all_goals
   clear hsz;go_wp2_with (first
    | (go_at_call 104;(with_reducible refine (hin2 _).mono ?_);rintro e wq ⟨rfl,hq⟩;subst wq)
    | (go_at_call 67;(with_reducible refine (zAq _ _).mono ?_);rintro e wq ⟨rfl,hq⟩;subst wq)
    | (go_at_call 67;(with_reducible refine (zAf _ _).mono ?_);rintro e wq ⟨rfl,hq⟩;subst wq))
   exact kBd (kB0 rfl _ _ _) rfl ⟨(hbw2.setCell (p:=⟨w1.heap.size,0,none⟩) kCX _).setCell (p:=⟨w1.heap.size,1,none⟩) kCX _,.inl ⟨rfl,rfl⟩⟩
theorem look_lit_plain (x:S31) (v5:Value) (w:World) (A:Option Addr) (c:Nat) (hv5:v5=.slice A x.f4.length c) (h0:0≤x.f0) (h1:x.f0≤14) (hlo:zAL x.f0≤x.f4.length) (hhi:(x.f4.length:Int)≤zAN x.f0)
  (hop:x.f0=0) (hS:Start w) (hs1:x.f1.f0.size≤9223372036854775807) (hs2:x.f1.f1.size≤9223372036854775807) (hm:chkR x.f1=0) (hp:0<x.f1.f0.size) (hneg:(((x.f1.f0[0]'hp).toNat:Int)==45)=false) (hne:x.f2=⟨#[]⟩) (n:Int) (hN:Hid (n=if x.f3<zAw x.f0∨zAx x.f0<x.f3 then 2 else 0)):Calls Tryz.prog 102 #[exV x v5] w (zDX n w):=by
 obtain⟨op,num,name,size,xs⟩:=x;subst hv5;simp only at *;have hin:=zBA op 0 14;rw[kA7 h0,kA7 h1] at hin;have l1:decide ((xs.length:Int)<zAL op)=false:=kA8 kCT;have l2:decide (zAN op<(xs.length:Int))=false:=kA8 kCT;have hz:=zE1 op;have E0:=zD0;have E9:=zCZ;have E99:=zCj;have hA:=zAG op;have hZ:=zBh op;have hin2:=zBA size (zAw op) (zAx op);obtain⟨nu,de⟩:=num;simp only at *;subst hop;have hC:=fun w hS=>zBd nu de hs1 hs2 w hS
 rw[hm] at hC;clear hm;subst hne;generalize zAL 0=aL at *;generalize zAN 0=aH at *;generalize zAw 0=sL at *;generalize zAx 0=sH at *;clear h0 h1 hlo hhi;unfold exV;simp only;go_enter Tryz.func102,Tryz.ntmps102;go_wp2_with (first
  | (go_at_call 104;(with_reducible refine (hin _).mono ?_);rintro e wq ⟨rfl,hq⟩;subst wq)
  | (go_at_call 67;(with_reducible refine (zAq _ _).mono ?_);rintro e wq ⟨rfl,hq⟩;subst wq)
  | (go_at_call 67;(with_reducible refine (zAf _ _).mono ?_);rintro e wq ⟨rfl,hq⟩;subst wq))
 refine (hA _).mono ?_;rintro e w1 ⟨rfl,hb1⟩;have hx1:=zA9 hb1 (zA4 w (.cells #[.int .i64 0,.string nu,.string de,.string ⟨#[]⟩,.int .i64 size,.slice A xs.length c] 31));obtain⟨⟨q0,q1,q2,q3,q4,q5⟩,_,xl⟩:=zA6 hx1;have hbw:Below w.heap.size w w1:=((kA3 _ w).alloc (kA2 _) _).trans (hb1.mono kCV);have hbw':=hbw.alloc hbw.size (.cells #[.int .i64 aL,.int .i64 aH] 198);have HX:=kA1 hx1;clear hx1;go_wp2_with (first
  | (go_at_call 104;(with_reducible refine (hin _).mono ?_);rintro e wq ⟨rfl,hq⟩;subst wq)
  | (go_at_call 67;(with_reducible refine (zAq _ _).mono ?_);rintro e wq ⟨rfl,hq⟩;subst wq)
  | (go_at_call 67;(with_reducible refine (zAf _ _).mono ?_);rintro e wq ⟨rfl,hq⟩;subst wq))
 refine (hC _ (hS.below hbw')).mono ?_;rintro e w4 ⟨rfl,hb4⟩;have HXa:=kA1 (zA9 hb4 ((kA4 w1 (.cells #[.int .i64 aL,.int .i64 aH] 198) _ xl).trans HX.out));have HYa:=kA1 (zA9 hb4 (zA4 w1 (.cells #[.int .i64 aL,.int .i64 aH] 198)));have hbwa:=hbw'.trans (hb4.mono hbw'.size);obtain⟨⟨r0,r1,r2,r3,r4,r5⟩,_,xl4⟩:=zA6 HXa.out;go_wp2_with (first
  | (go_at_call 104;(with_reducible refine (hin _).mono ?_);rintro e wq ⟨rfl,hq⟩;subst wq)
  | (go_at_call 67;(with_reducible refine (zAq _ _).mono ?_);rintro e wq ⟨rfl,hq⟩;subst wq)
  | (go_at_call 67;(with_reducible refine (zAf _ _).mono ?_);rintro e wq ⟨rfl,hq⟩;subst wq))
 refine (hZ _).mono ?_;rintro e w2 ⟨rfl,hb2⟩;have hx2:=zA9 hb2 HXa.out;have hy2:=zA9 hb2 HYa.out;have hbw2:=hbwa.trans (hb2.mono hbwa.size);have hw1:=hbw.size;obtain⟨⟨p0,p1,p2,p3,p4,p5⟩,_,xl2⟩:=zA6 hx2;have y0:=zA1 hy2 0;have y1:=zA1 hy2 1;have z0:=zA2 hy2 0;have z1:=zA2 hy2 1;have yl:=zA5 hy2;have hneq:=kB4 xl;clear hx2 hy2 HX hb1 hb2 hb4 r0 r1 r2 r3 r4 r5;by_cases hsz:size<sL∨sH<size
 ·have hn:n=2:=by rw[hN.out,kAa hsz]
  have hsb:(decide (sL≤size)&&decide (size≤sH))=false:=by
   rw[kAQ];rcases hsz with h | h
   ·exact .inl (kA8 kCT)
   ·exact .inr (kA8 kCT)
  rw[hsb] at hin2;subst hn;clear hsb;rcases hz with⟨rfl,rfl⟩ | ⟨rfl,rfl⟩ | ⟨rfl,rfl⟩
  ·have hs:(size==0)=false:=zAF kCT;have hs':(size != 0)=true:=by rw[bne,hs];rfl
   clear hsz;go_wp2_with (first
    | (go_at_call 104;(with_reducible refine (hin2 _).mono ?_);rintro e wq ⟨rfl,hq⟩;subst wq)
    | (go_at_call 67;(with_reducible refine (zAq _ _).mono ?_);rintro e wq ⟨rfl,hq⟩;subst wq)
    | (go_at_call 67;(with_reducible refine (zAf _ _).mono ?_);rintro e wq ⟨rfl,hq⟩;subst wq))
   exact⟨rfl,(hbw2.setCell (p:=⟨w1.heap.size,0,none⟩) kCX _).setCell (p:=⟨w1.heap.size,1,none⟩) kCX _,.inr ⟨kCT,rfl⟩⟩
  all_goals
   clear hsz;go_wp2_with (first
    | (go_at_call 104;(with_reducible refine (hin2 _).mono ?_);rintro e wq ⟨rfl,hq⟩;subst wq)
    | (go_at_call 67;(with_reducible refine (zAq _ _).mono ?_);rintro e wq ⟨rfl,hq⟩;subst wq)
    | (go_at_call 67;(with_reducible refine (zAf _ _).mono ?_);rintro e wq ⟨rfl,hq⟩;subst wq))
   exact⟨rfl,(hbw2.setCell (p:=⟨w1.heap.size,0,none⟩) kCX _).setCell (p:=⟨w1.heap.size,1,none⟩) kCX _,.inr ⟨kCT,rfl⟩⟩
 ·have hn:n=0:=by rw[hN.out,kA9 hsz]
  rw[kA7 (show sL≤size by omega),kA7 (show size≤sH by omega)] at hin2;subst hn;rcases hz with⟨rfl,rfl⟩ | ⟨rfl,rfl⟩ | ⟨rfl,rfl⟩
  ·have hs:(size==0)=true:=by rw[kAx];omega
   have hs':(size != 0)=false:=by rw[bne,hs];rfl
   clear hsz;go_wp2_with (first
    | (go_at_call 104;(with_reducible refine (hin2 _).mono ?_);rintro e wq ⟨rfl,hq⟩;subst wq)
    | (go_at_call 67;(with_reducible refine (zAq _ _).mono ?_);rintro e wq ⟨rfl,hq⟩;subst wq)
    | (go_at_call 67;(with_reducible refine (zAf _ _).mono ?_);rintro e wq ⟨rfl,hq⟩;subst wq))
   exact kBd (kB0 rfl _ _ _) rfl ⟨(hbw2.setCell (p:=⟨w1.heap.size,0,none⟩) kCX _).setCell (p:=⟨w1.heap.size,1,none⟩) kCX _,.inl ⟨rfl,rfl⟩⟩
  all_goals
   clear hsz;go_wp2_with (first
    | (go_at_call 104;(with_reducible refine (hin2 _).mono ?_);rintro e wq ⟨rfl,hq⟩;subst wq)
    | (go_at_call 67;(with_reducible refine (zAq _ _).mono ?_);rintro e wq ⟨rfl,hq⟩;subst wq)
    | (go_at_call 67;(with_reducible refine (zAf _ _).mono ?_);rintro e wq ⟨rfl,hq⟩;subst wq))
   exact kBd (kB0 rfl _ _ _) rfl ⟨(hbw2.setCell (p:=⟨w1.heap.size,0,none⟩) kCX _).setCell (p:=⟨w1.heap.size,1,none⟩) kCX _,.inl ⟨rfl,rfl⟩⟩
end Go.Proofs.YtjaobihcdkjmbaaGreatDoor
end
