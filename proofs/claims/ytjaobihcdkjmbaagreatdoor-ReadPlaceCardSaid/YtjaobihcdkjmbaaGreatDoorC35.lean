/- The law ReadPlace answers true for every argument; a part of its proof. -/
import Derived.Test.YtjaobihcdkjmbaaGreatDoorCa
import Derived.Test.YtjaobihcdkjmbaaGreatDoorCb
import Derived.Test.YtjaobihcdkjmbaaGreatDoorC0
import Derived.Test.YtjaobihcdkjmbaaGreatDoorC7
import Derived.Test.YtjaobihcdkjmbaaGreatDoorC10
import Derived.Test.YtjaobihcdkjmbaaGreatDoorC13
import Derived.Test.YtjaobihcdkjmbaaGreatDoorC28
set_option linter.unusedVariables false
set_option linter.unusedSimpArgs false
namespace Go.Proofs.YtjaobihcdkjmbaaGreatDoor.PReadTokens
end Go.Proofs.YtjaobihcdkjmbaaGreatDoor.PReadTokens
namespace Go.Proofs.YtjaobihcdkjmbaaGreatDoorW.PrintWords
end Go.Proofs.YtjaobihcdkjmbaaGreatDoorW.PrintWords
set_option maxHeartbeats 2000000
section
namespace Go.Proofs.YtjaobihcdkjmbaaGreatDoor
open Go.RowKit Go.Proofs.YtjaobihcdkjmbaaGreatDoorW.PrintWords Go.Proofs.YtjaobihcdkjmbaaGreatDoor.PReadTokens
theorem cmp_sign (a b:Int) (w:World):Calls Tryz.prog 233 #[.int .i64 a,.int .i64 b] w fun e w'=>e=.returned (.int .i64 (cmpI a b))∧Below w.heap.size w w':=by
 rcases kB7 a b with h | h | h
 ·rw[zCh h];have h1:decide (a<b)=true:=kA5 h;go_enter Tryz.func233,Tryz.ntmps233;go_wp2;go_ret;exact⟨rfl,kA3 _ _⟩
 ·subst h;rw[zCu];have h1:decide (a<a)=false:=kA6 kCW;go_enter Tryz.func233,Tryz.ntmps233;go_wp2;go_ret;exact⟨rfl,kA3 _ _⟩
 ·rw[zCy h];have h1:decide (a<b)=false:=kA6 kCW;have h2:decide (b<a)=true:=kA5 h;go_enter Tryz.func233,Tryz.ntmps233;go_wp2;go_ret;exact⟨rfl,kA3 _ _⟩
def zBy (T:TypeId) (e:Int):Ending:=.panicked [{ v:=.iface T (.agg #[.int .i64 e]),recovered:=false }]
theorem as159_134 (v:Value) (w:World):(Instr.typeAssert (.iface 159 v) 20 134 true).run Tryz.prog w=.ok (.tuple #[.iface 159 v,.bool true]) w:=kCv Tryz.underlying134 kCX v 20 w
theorem caught63_hit (n:Int) (w:World) (hg:w.cell? ⟨0,0,none⟩=some (.iface 209 (.agg #[.pointer (some ⟨7,134,none⟩)]))) :
  Calls Tryz.prog 63 #[.iface 159 (.agg #[.int .i64 n])] w fun e w'=>e=.returned (.int .i64 n)∧Below w.heap.size w w':=by
 have hta:=as159_134;have hpl:=kAG w _ hg;have hh:=as_hitG as_ok159 n w.heap.size (.int .i64 0) (w.alloc (.cells #[.int .i64 0] 159)) ((kBy _ _ ⟨0,0,none⟩ hpl).trans hg) (zA4 _ _);go_enter Tryz.func63,Tryz.ntmps63;go_wp2_with fail;refine hh.mono ?_;rintro e w2 ⟨rfl,W,hb,rfl⟩;have hs2:=zAb hb (zA4 w (.cells #[.int .i64 0] 159));have hs3:=zAa hs2 0 (.int .i64 n);have c1:=zA1 hs3 0;have hfin:=(((kA3 _ w).alloc (kA2 _) (.cells #[.int .i64 0] 159)).trans (hb.mono kCY)).setCell (p:=⟨w.heap.size,0,none⟩) (kA2 _) (.int .i64 n);go_wp2;go_ret;exact⟨rfl,hfin⟩
theorem catch62_hit (p:Nat) (n:Int) (old:Value) (older:List PanicEntry) (w:World) (hp:w.heap[p]?=some (.cells #[old] 36 (0,0))) (hg:w.cell? ⟨0,0,none⟩=some (.iface 209 (.agg #[.pointer (some ⟨7,134,none⟩)]))) :
  CallsD Tryz.prog 62 #[.pointer (some ⟨p,0,none⟩)] (.panicking ({ v:=.iface 159 (.agg #[.int .i64 n]),recovered:=false } :: older)) w fun e u' w' =>
   e=.returned (.tuple #[])∧u'=.panicking ({ v:=.iface 159 (.agg #[.int .i64 n]),recovered:=true } :: older)∧w'.heap[p]?=some (.cells #[.int .i64 n] 36 (0,0))∧w.grownBy w' (some p):=by
 have hta:=caught63_hit n w hg;refine kC8 Tryz.func62 rfl fun c₀ cs hu=>?_
 apply kCF;simp[wpOpsS,go_sem,recoverD,hu,Tryz.ntmps62,Exit.thenS];refine hta.mono ?_;rintro e w' ⟨rfl,hb⟩;have hp2:=zAb hb hp;have c0:=zA1 hp2 0;have f0:=zA2 hp2 0;have hfin:=zAa hp2 0 (.int .i64 n);have hgr:w.grownBy (w'.setCell ⟨p,0,none⟩ (.int .i64 n)) (some p):=kA9 (kAi (kAJ _ _) hb) (kAh _ _ _ _);simp[go_sem,c0,f0,Oper.upon,Result.andThen]
 cases c₀
 simp_all [bodyPostS,results,Tryz.results62]
theorem as253_134 (v:Value) (w:World):(Instr.typeAssert (.iface 253 v) 20 134 true).run Tryz.prog w=.ok (.tuple #[.iface 253 v,.bool true]) w:=kCv Tryz.underlying134 kCX v 20 w
theorem caught167_hit (n:Int) (w:World) (hg:w.cell? ⟨0,0,none⟩=some (.iface 209 (.agg #[.pointer (some ⟨7,134,none⟩)]))) :
  Calls Tryz.prog 167 #[.iface 253 (.agg #[.int .i64 n])] w fun e w'=>e=.returned (.int .i64 n)∧Below w.heap.size w w':=by
 have hta:=as253_134;have hpl:=kAG w _ hg;have hh:=as_hitG as_ok253 n w.heap.size (.int .i64 0) (w.alloc (.cells #[.int .i64 0] 253)) ((kBy _ _ ⟨0,0,none⟩ hpl).trans hg) (zA4 _ _);go_enter Tryz.func167,Tryz.ntmps167;go_wp2_with fail;refine hh.mono ?_;rintro e w2 ⟨rfl,W,hb,rfl⟩;have hs2:=zAb hb (zA4 w (.cells #[.int .i64 0] 253));have hs3:=zAa hs2 0 (.int .i64 n);have c1:=zA1 hs3 0;have hfin:=(((kA3 _ w).alloc (kA2 _) (.cells #[.int .i64 0] 253)).trans (hb.mono kCY)).setCell (p:=⟨w.heap.size,0,none⟩) (kA2 _) (.int .i64 n);go_wp2;go_ret;exact⟨rfl,hfin⟩
theorem catch166_hit (p:Nat) (n:Int) (old:Value) (older:List PanicEntry) (w:World) (hp:w.heap[p]?=some (.cells #[old] 36 (0,0))) (hg:w.cell? ⟨0,0,none⟩=some (.iface 209 (.agg #[.pointer (some ⟨7,134,none⟩)]))) :
  CallsD Tryz.prog 166 #[.pointer (some ⟨p,0,none⟩)] (.panicking ({ v:=.iface 253 (.agg #[.int .i64 n]),recovered:=false } :: older)) w fun e u' w' =>
   e=.returned (.tuple #[])∧u'=.panicking ({ v:=.iface 253 (.agg #[.int .i64 n]),recovered:=true } :: older)∧w'.heap[p]?=some (.cells #[.int .i64 n] 36 (0,0))∧w.grownBy w' (some p):=by
 have hta:=caught167_hit n w hg;refine kC8 Tryz.func166 rfl fun c₀ cs hu=>?_
 apply kCF;simp[wpOpsS,go_sem,recoverD,hu,Tryz.ntmps166,Exit.thenS];refine hta.mono ?_;rintro e w' ⟨rfl,hb⟩;have hp2:=zAb hb hp;have c0:=zA1 hp2 0;have f0:=zA2 hp2 0;have hfin:=zAa hp2 0 (.int .i64 n);have hgr:w.grownBy (w'.setCell ⟨p,0,none⟩ (.int .i64 n)) (some p):=kA9 (kAi (kAJ _ _) hb) (kAh _ _ _ _);simp[go_sem,c0,f0,Oper.upon,Result.andThen]
 cases c₀
 simp_all [bodyPostS,results,Tryz.results166]
theorem zG5 (e:Int) (w:World):Calls Tryz.prog 188 #[.bool true,.int .i64 e] w fun en w'=>en=zBy 253 e∧w'=w:=by
 unfold zBy;go_enter Tryz.func188,Tryz.ntmps188;go_wp2;exact⟨rfl,rfl,rfl⟩
theorem as300_134 (v:Value) (w:World):(Instr.typeAssert (.iface 300 v) 20 134 true).run Tryz.prog w=.ok (.tuple #[.iface 300 v,.bool true]) w:=kCv Tryz.underlying134 kCX v 20 w
theorem caught225_hit (n:Int) (w:World) (hg:w.cell? ⟨0,0,none⟩=some (.iface 209 (.agg #[.pointer (some ⟨7,134,none⟩)]))) :
  Calls Tryz.prog 225 #[.iface 300 (.agg #[.int .i64 n])] w fun e w'=>e=.returned (.int .i64 n)∧Below w.heap.size w w':=by
 have hta:=as300_134;have hpl:=kAG w _ hg;have hh:=as_hitG as_ok300 n w.heap.size (.int .i64 0) (w.alloc (.cells #[.int .i64 0] 300)) ((kBy _ _ ⟨0,0,none⟩ hpl).trans hg) (zA4 _ _);go_enter Tryz.func225,Tryz.ntmps225;go_wp2_with fail;refine hh.mono ?_;rintro e w2 ⟨rfl,W,hb,rfl⟩;have hs2:=zAb hb (zA4 w (.cells #[.int .i64 0] 300));have hs3:=zAa hs2 0 (.int .i64 n);have c1:=zA1 hs3 0;have hfin:=(((kA3 _ w).alloc (kA2 _) (.cells #[.int .i64 0] 300)).trans (hb.mono kCY)).setCell (p:=⟨w.heap.size,0,none⟩) (kA2 _) (.int .i64 n);go_wp2;go_ret;exact⟨rfl,hfin⟩
theorem catch224_hit (p:Nat) (n:Int) (old:Value) (older:List PanicEntry) (w:World) (hp:w.heap[p]?=some (.cells #[old] 36 (0,0))) (hg:w.cell? ⟨0,0,none⟩=some (.iface 209 (.agg #[.pointer (some ⟨7,134,none⟩)]))) :
  CallsD Tryz.prog 224 #[.pointer (some ⟨p,0,none⟩)] (.panicking ({ v:=.iface 300 (.agg #[.int .i64 n]),recovered:=false } :: older)) w fun e u' w' =>
   e=.returned (.tuple #[])∧u'=.panicking ({ v:=.iface 300 (.agg #[.int .i64 n]),recovered:=true } :: older)∧w'.heap[p]?=some (.cells #[.int .i64 n] 36 (0,0))∧w.grownBy w' (some p):=by
 have hta:=caught225_hit n w hg;refine kC8 Tryz.func224 rfl fun c₀ cs hu=>?_
 apply kCF;simp[wpOpsS,go_sem,recoverD,hu,Tryz.ntmps224,Exit.thenS];refine hta.mono ?_;rintro e w' ⟨rfl,hb⟩;have hp2:=zAb hb hp;have c0:=zA1 hp2 0;have f0:=zA2 hp2 0;have hfin:=zAa hp2 0 (.int .i64 n);have hgr:w.grownBy (w'.setCell ⟨p,0,none⟩ (.int .i64 n)) (some p):=kA9 (kAi (kAJ _ _) hb) (kAh _ _ _ _);simp[go_sem,c0,f0,Oper.upon,Result.andThen]
 cases c₀
 simp_all [bodyPostS,results,Tryz.results224]
theorem zG4 (e:Int) (w:World):Calls Tryz.prog 255 #[.bool true,.int .i64 e] w fun en w'=>en=zBy 300 e∧w'=w:=by
 unfold zBy;go_enter Tryz.func255,Tryz.ntmps255;go_wp2;exact⟨rfl,rfl,rfl⟩
end Go.Proofs.YtjaobihcdkjmbaaGreatDoor
end
