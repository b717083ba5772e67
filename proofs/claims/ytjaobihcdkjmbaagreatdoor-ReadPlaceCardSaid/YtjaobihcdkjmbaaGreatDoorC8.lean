/- The law ReadPlace answers true for every argument; a part of its proof. -/
import Derived.Test.YtjaobihcdkjmbaaGreatDoorCa
import Derived.Test.YtjaobihcdkjmbaaGreatDoorCb
import Derived.Test.YtjaobihcdkjmbaaGreatDoorTie
import Derived.Test.YtjaobihcdkjmbaaGreatDoorCards
import Derived.Test.YtjaobihcdkjmbaaGreatDoorC0
set_option linter.unusedVariables false
set_option linter.unusedSimpArgs false
namespace Go.Proofs.YtjaobihcdkjmbaaGreatDoorW.PrintWords
end Go.Proofs.YtjaobihcdkjmbaaGreatDoorW.PrintWords
section
namespace Go.Proofs.YtjaobihcdkjmbaaGreatDoor
open Go.ChangeMaps (open_string)
open Go.RowKit Go.ChangeShapes Go.WideShapes Go.ChangeAt Go.Proofs.YtjaobihcdkjmbaaGreatDoorW.PrintWords
theorem ints_in {W:World} {H:Type} {enc:TypeId×Value→H} {v:Value} {d:DataW H} {p:List MemPlace} (hv:∃a len cap,v=.slice a len cap) (h:DataW.Trod enc Tryz.prog W 0 (fun _=>true) true 22 v d p) :
  ∃A c,∃l:List Int,v=.slice A l.length c∧l.length≤9223372036854775807∧l.length≤c∧Kd.C (Kd.int .i64) W A l.length l:=by
 obtain⟨a0,len,cap,rfl⟩:=hv;obtain⟨fuel,hf⟩:=h;rcases open_ints Tryz.underlying22 Tryz.underlying3 kCX hf with⟨hcs,hx⟩ | ⟨a,len',cap',zs,hcs,_,hl,hm,hz,hx,hcell,hwz⟩
 ·have e:a0=none∧len=0∧cap=0:=by simpa[Value.cells] using hcs
  obtain⟨rfl,rfl,rfl⟩:=e;refine⟨none,0,[],rfl,kAI _,kA2 _,?_⟩;obtain⟨A,c,h1,_,h2⟩:=Kd.R_reads (Kd.R_nil (Kd.int .i64) 3 W 0 (fun _=>True));injection h1 with h1;subst h1;exact h2
 ·have e:a0=some a∧len=len'∧cap=cap':=by simpa[Value.cells] using hcs
  obtain⟨rfl,rfl,rfl⟩:=e;rw[kAb rfl] at hz;have hlen:(zs.take len).length=len:=by rw[kAe];omega
  unfold maxLen at hm;refine⟨some a,cap,zs.take len,by rw[hlen],kCW,kCW,Kd.C_of_reads (d:=(0:Int)) ⟨rfl,kCW,fun _=>⟨a,rfl,fun j hj=>?_⟩⟩⟩;rw[hlen] at hj;rw[hcell j kCW];congr 2;simp[kBk,List.getElem?_take,hj]
def a0:Array Value:=#[.string ⟨#[]⟩,.int .i64 0,.int .i64 0,.int .u8 0,.slice none 0 0]
end Go.Proofs.YtjaobihcdkjmbaaGreatDoor
end
