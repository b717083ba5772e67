/- The law ReadBlanks answers true for every argument; a part of its proof. -/
import Derived.Test.YtjaobihcdkjmbaaGreatDoorBa
import Derived.Test.YtjaobihcdkjmbaaGreatDoorBb
import Derived.Test.YtjaobihcdkjmbaaGreatDoorTie
import Derived.Test.YtjaobihcdkjmbaaGreatDoorCards
import Derived.Test.YtjaobihcdkjmbaaGreatDoorB0
import Derived.Test.YtjaobihcdkjmbaaGreatDoorB33
set_option linter.unusedVariables false
set_option linter.unusedSimpArgs false
namespace Go.Proofs.YtjaobihcdkjmbaaGreatDoor.PReadTokens
end Go.Proofs.YtjaobihcdkjmbaaGreatDoor.PReadTokens
namespace Go.Proofs.YtjaobihcdkjmbaaGreatDoorW.PrintWords
end Go.Proofs.YtjaobihcdkjmbaaGreatDoorW.PrintWords
set_option maxRecDepth 100000
section
namespace Go.Proofs.YtjaobihcdkjmbaaGreatDoor
open Go.RowKit Go.Proofs.YtjaobihcdkjmbaaGreatDoorW.PrintWords Go.Proofs.YtjaobihcdkjmbaaGreatDoor.PReadTokens
theorem NewRod_calls (A:Option Addr) (l:List Int) (c:Nat) (hl:l.length≤9223372036854775807) (w:World) (hc:Kd.C (Kd.int .i64) w A l.length l) :
  Calls Tryz.prog 11 #[.slice A l.length c] w fun e w'=>e=.returned (.pointer (some ⟨w.heap.size,0,none⟩))∧Rod w' w.heap.size 0∧Below w.heap.size w w':=by
 have hcells:∀i,i<l.length→∃ad x,A=some ad∧w.cell? (ad.add i)=some (.int .i64 x)∧ad.block<w.heap.size:=by
  intro i hi;obtain⟨ad,h1,h2⟩:=Kd.at_int hc i kCT kCT;have h3:=kAE w _ h2;rw[zCG] at h3;exact⟨ad,_,h1,h2,h3⟩
 have HC:=kA1 hcells;clear hcells hc;have BW:=(kA3 w.heap.size w).alloc (kA2 _) (.cells #[.slice A l.length c,.int .i64 0,.int .u64 7640891576956012809] 77);have hb:=kA1 (zA4 w (.cells #[.slice A l.length c,.int .i64 0,.int .u64 7640891576956012809] 77));go_enter Tryz.func11,Tryz.ntmps11;go_wp2;go_ret;refine⟨rfl,⟨A,l.length,c,0,_,hb.out,kCT,kCT,hl,fun i hi=>?_⟩,BW⟩;obtain⟨ad,x,h1,h2,h3⟩:=HC.out i hi;exact⟨ad,x,h1,zA0 BW h2,h3⟩
end Go.Proofs.YtjaobihcdkjmbaaGreatDoor
end
section
namespace Go.Proofs.YtjaobihcdkjmbaaGreatDoor
open Go.ChangeMaps (open_string)
open Go.RowKit Go.ChangeShapes Go.WideShapes Go.ChangeAt Go.Proofs.YtjaobihcdkjmbaaGreatDoorW.PrintWords
theorem ints_in {W:World} {H:Type} {enc:TypeId×Value→H} {v:Value} {d:DataW H} {p:List MemPlace} (hv:∃a len cap,v=.slice a len cap) (h:DataW.Trod enc Tryz.prog W 0 (fun _=>true) true 22 v d p) :
  ∃A c,∃l:List Int,v=.slice A l.length c∧l.length≤9223372036854775807∧l.length≤c∧Kd.C (Kd.int .i64) W A l.length l:=by
 obtain⟨a0,len,cap,rfl⟩:=hv;obtain⟨fuel,hf⟩:=h;rcases open_ints Tryz.underlying22 Tryz.underlying3 kCU hf with⟨hcs,hx⟩ | ⟨a,len',cap',zs,hcs,_,hl,hm,hz,hx,hcell,hwz⟩
 ·have e:a0=none∧len=0∧cap=0:=by simpa[Value.cells] using hcs
  obtain⟨rfl,rfl,rfl⟩:=e;refine⟨none,0,[],rfl,kAT _,kA2 _,?_⟩;obtain⟨A,c,h1,_,h2⟩:=Kd.R_reads (Kd.R_nil (Kd.int .i64) 3 W 0 (fun _=>True));injection h1 with h1;subst h1;exact h2
 ·have e:a0=some a∧len=len'∧cap=cap':=by simpa[Value.cells] using hcs
  obtain⟨rfl,rfl,rfl⟩:=e;rw[kAa rfl] at hz;have hlen:(zs.take len).length=len:=by rw[kAh];omega
  unfold maxLen at hm;refine⟨some a,cap,zs.take len,by rw[hlen],kCT,kCT,Kd.C_of_reads (d:=(0:Int)) ⟨rfl,kCT,fun _=>⟨a,rfl,fun j hj=>?_⟩⟩⟩;rw[hlen] at hj;rw[hcell j kCT];congr 2;simp[kAW,List.getElem?_take,hj]
def a0:Array Value:=#[.string ⟨#[]⟩,.int .i64 0,.int .i64 0,.int .u8 0,.slice none 0 0]
end Go.Proofs.YtjaobihcdkjmbaaGreatDoor
end
