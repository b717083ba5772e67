/- The law ReadPlace answers true for every argument; a part of its proof. -/
import Derived.Test.YtjaobihcdkjmbaaGreatDoorCa
import Derived.Test.YtjaobihcdkjmbaaGreatDoorCb
import Derived.Test.YtjaobihcdkjmbaaGreatDoorC0
import Derived.Test.YtjaobihcdkjmbaaGreatDoorC7
import Derived.Test.YtjaobihcdkjmbaaGreatDoorC11
import Derived.Test.YtjaobihcdkjmbaaGreatDoorC17
import Derived.Test.YtjaobihcdkjmbaaGreatDoorC35
import Derived.Test.YtjaobihcdkjmbaaGreatDoorC40
import Derived.Test.YtjaobihcdkjmbaaGreatDoorC41
set_option linter.unusedVariables false
set_option linter.unusedSimpArgs false
namespace Go.Proofs.YtjaobihcdkjmbaaGreatDoor.PReadTokens
end Go.Proofs.YtjaobihcdkjmbaaGreatDoor.PReadTokens
namespace Go.Proofs.YtjaobihcdkjmbaaGreatDoorW.PrintWords
end Go.Proofs.YtjaobihcdkjmbaaGreatDoorW.PrintWords
set_option maxRecDepth 100000
set_option maxHeartbeats 2000000
section
namespace Go.Proofs.YtjaobihcdkjmbaaGreatDoor
open Go.RowKit Go.Proofs.YtjaobihcdkjmbaaGreatDoorW.PrintWords Go.Proofs.YtjaobihcdkjmbaaGreatDoor.PReadTokens
theorem zBn (s t:ByteArray) (hs:s.size≤9223372036854775807) (ht:t.size≤9223372036854775807) (w:World) (hS:Start w) :
  Calls Tryz.prog 141 #[.agg #[.string s,.string t]] w fun e w'=>e=.returned (.int .i64 (chkR ⟨s,t⟩))∧Below w.heap.size w w':=by
 have hmf:∀(fn:Fn) (first cap:Array Value) (w:World),(Instr.makeFunc fn first cap).run Tryz.prog w=.ok (.func fn first cap) w:=fun _ _ _ _=>rfl
 have HT:=kA1 (fun w hS=>rtaken_calls s t hs ht w hS);obtain⟨n,hn⟩:∃n,n=chkR ⟨s,t⟩:=⟨_,rfl⟩;rw[← hn] at HT⊢;replace hn:=kA1 hn;have hb0:=((kA3 _ w).alloc (kA2 _) (.cells #[.string s,.string t] 28)).alloc kCY (.cells #[.int .i64 0] 36);have hh1:((w.alloc (.cells #[.string s,.string t] 28)).alloc (.cells #[.int .i64 0] 36)).heap[w.heap.size+1]?=some (.cells #[.int .i64 0] 36 (0,0)):=zAB _ _ _ kCY;have hS1:=hS.below hb0;have hge:=hS1.err;go_enter_defers Tryz.func141,Tryz.ntmps141;go_wp2_with fail;refine (HT.out _ hS1).mono ?_;rintro e w1 ⟨hb1,hcase⟩;have hr1:=zAb hb1 hh1;have hbw:=hb0.trans (hb1.mono kDb);have hg1:=zA0 hb1 hge;rcases hcase with⟨h0,v,rfl⟩ | ⟨h0,he⟩
 ·subst h0;have c1:=zA1 hr1 0;have f1':=zA2 hr1 0;go_wp2;have hr2:=zAa hr1 0 (.int .i64 0);have hbw2:=hbw.setCell (p:=⟨w.heap.size+1,0,none⟩) kCY (.int .i64 0);generalize w1.setCell ⟨w.heap.size+1,0,none⟩ (.int .i64 0)=w2 at *;refine kBT (f:=166) (args:=#[.pointer (some ⟨w.heap.size+1,0,none⟩)]) kCY kDc ?_;refine (catch166_idle (w.heap.size+1) (.int .i64 0) w2 hr2).mono ?_;rintro e u w3 ⟨rfl,rfl,hw3⟩;have c4:w3.cell? ⟨w.heap.size+1,0,none⟩=some (.int .i64 0):=by rw[hw3];exact zA1 (zAa hr2 0 (.int .i64 0)) 0
  have hfin:Below w.heap.size w w3:=by rw[hw3];exact hbw2.setCell (p:=⟨w.heap.size+1,0,none⟩) kCY _
  simp[Leaves,settle,results,Tryz.results141,go_sem,c4,hfin]
 ·unfold zBy at he;subst he;replace h0:=kA1 h0;go_wp2;refine kBT (f:=166) (args:=#[.pointer (some ⟨w.heap.size+1,0,none⟩)]) kCY kDc ?_;refine (catch166_hit (w.heap.size+1) n (.int .i64 0) [] w1 hr1 hg1).mono ?_;rintro e u w3 ⟨rfl,rfl,hs3,hg3⟩;have c4:w3.cell? ⟨w.heap.size+1,0,none⟩=some (.int .i64 n):=zA1 hs3 0;have hfin:Below w.heap.size w w3:=hbw.grown hg3 hbw.size (fun j e=>by injection e with e;omega);simp[Leaves,settle,results,Tryz.results141,go_sem,c4,hfin]
end Go.Proofs.YtjaobihcdkjmbaaGreatDoor
end
