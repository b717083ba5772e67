/- What can be read as an expression is printed as a text that reads as the same, and is printed as itself: for every argument; a part of its proof. -/
import Derived.Test.YtjaobihcdkjmbaaGreatDoorDa
import Derived.Test.YtjaobihcdkjmbaaGreatDoorDb
import Derived.Test.YtjaobihcdkjmbaaGreatDoorTie
import Derived.Test.YtjaobihcdkjmbaaGreatDoorCards
import Derived.Test.YtjaobihcdkjmbaaGreatDoorD0
set_option linter.unusedVariables false
set_option linter.unusedSimpArgs false
namespace Go.Proofs.YtjaobihcdkjmbaaGreatDoorW.PrintWords
end Go.Proofs.YtjaobihcdkjmbaaGreatDoorW.PrintWords
set_option maxRecDepth 100000
section
namespace Go.Proofs.YtjaobihcdkjmbaaGreatDoor
open Go.ChangeMaps (open_string)
open Go.RowKit Go.ChangeShapes Go.WideShapes Go.ChangeAt Go.Proofs.YtjaobihcdkjmbaaGreatDoorW.PrintWords
theorem ints_in {W:World} {H:Type} {enc:TypeId×Value→H} {v:Value} {d:DataW H} {p:List MemPlace} (hv:∃a len cap,v=.slice a len cap) (h:DataW.Trod enc Tryz.prog W 0 (fun _=>true) true 22 v d p) :
  ∃A c,∃l:List Int,v=.slice A l.length c∧l.length≤9223372036854775807∧l.length≤c∧Kd.C (Kd.int .i64) W A l.length l:=by
 obtain⟨a0,len,cap,rfl⟩:=hv;obtain⟨fuel,hf⟩:=h;rcases open_ints Tryz.underlying22 Tryz.underlying3 kD5 hf with⟨hcs,hx⟩ | ⟨a,len',cap',zs,hcs,_,hl,hm,hz,hx,hcell,hwz⟩
 ·have e:a0=none∧len=0∧cap=0:=by simpa[Value.cells] using hcs
  obtain⟨rfl,rfl,rfl⟩:=e;refine⟨none,0,[],rfl,kAI _,kA2 _,?_⟩;obtain⟨A,c,h1,_,h2⟩:=Kd.R_reads (Kd.R_nil (Kd.int .i64) 3 W 0 (fun _=>True));injection h1 with h1;subst h1;exact h2
 ·have e:a0=some a∧len=len'∧cap=cap':=by simpa[Value.cells] using hcs
  obtain⟨rfl,rfl,rfl⟩:=e;rw[kAa rfl] at hz;have hlen:(zs.take len).length=len:=by rw[kAe];omega
  unfold maxLen at hm;refine⟨some a,cap,zs.take len,by rw[hlen],kD4,kD4,Kd.C_of_reads (d:=(0:Int)) ⟨rfl,kD4,fun _=>⟨a,rfl,fun j hj=>?_⟩⟩⟩;rw[hlen] at hj;rw[hcell j kD4];congr 2;simp[kB1,List.getElem?_take,hj]
def a0:Array Value:=#[.string ⟨#[]⟩,.int .i64 0,.int .i64 0,.int .u8 0,.slice none 0 0]
end Go.Proofs.YtjaobihcdkjmbaaGreatDoor
end
section
namespace Go.Proofs.YtjaobihcdkjmbaaGreatDoor
section
theorem readCanonF0:(Rows.readCanonRow.wf (OpenSpec.ofChange Rows.readCanonSpec))=true:=kD5
theorem readCanonF1:(laidOutB Tryz.prog)=true:=kD5
theorem readCanonF2:(mapsRowed Tryz.prog)=true:=kD5
theorem readCanonF3:(Tryz.f4.params.all (Tryz.prog.readableRec ·))=true:=kD5
theorem readCanonF4:(namedTie Tryz.prog Rows.readCanonRow.named Rows.readCanonSpec.vars)=true:=kD5
theorem readCanonF5:((Rows.readCanonRow.stops == []))=true:=kD5
theorem readCanonF6:((Tryz.prog.stops == []))=true:=kD5
theorem readCanonF7:((Rows.readCanonRow.knobs == []))=true:=kD5
theorem readCanonF8:((Tryz.prog.stopKnobs == []))=true:=kD5
theorem readCanonF9:((Rows.readCanonRow.inPlace==Tryz.prog.inPlace 4))=true:=kD5
theorem readCanonF10:((Rows.readCanonRow.unfollowed==Tryz.prog.unfollowed 4))=true:=kD5
theorem readCanonF11:((Rows.readCanonRow.recurses==Tryz.prog.recurses 4))=true:=kD5
theorem readCanonF12:((Rows.readCanonRow.named==Tryz.prog.varsNamed 4))=true:=kD5
theorem readCanonF13:((Rows.readCanonRow.maps==(Tryz.f4.params.toList++Rows.readCanonSpec.plain.varTypes Tryz.prog).any (Tryz.prog.mapsRec ·)))=true:=kD5
theorem readCanonF14:((Rows.readCanonRow.ifaces==(Tryz.f4.params.toList++Rows.readCanonSpec.plain.varTypes Tryz.prog).any (Tryz.prog.ifacesRec ·)))=true:=kD5
theorem readCanonF15:((Rows.readCanonRow.mapsOut==Tryz.prog.mapsAmong Tryz.f4.resultTypes.toList))=true:=kD5
theorem readCanonF16:((Rows.readCanonRow.loops==(Tryz.f4.params.toList++Rows.readCanonSpec.plain.varTypes Tryz.prog).any (Tryz.prog.loopsFrom ·)))=true:=kD5
theorem readCanonF17:((Rows.readCanonRow.wideKeys==(Tryz.f4.params.toList++Rows.readCanonSpec.plain.varTypes Tryz.prog++Tryz.f4.resultTypes.toList).any (Tryz.prog.wideKeysFrom ·)))=true:=kD5
theorem readCanonF18:(Rows.readCanonSpec.vars.all (Tryz.prog.varReadable ·))=true:=kD5
theorem readCanonF19:(Tryz.f4.resultTypes.all (fun t=>Tryz.prog.readableRec t&&decide (t<Tryz.prog.types.size)))=true:=kD5
theorem readCanonF20:((Rows.readCanonRow.ifacesOut==Tryz.f4.resultTypes.toList.any (Tryz.prog.ifacesRec ·)))=true:=kD5
theorem readCanonF21:((Rows.readCanonRow.loopsOut==Tryz.f4.resultTypes.toList.any (Tryz.prog.loopsFrom ·)))=true:=kD5
theorem readCanonF22:((Rows.readCanonRow.plainKeys==Tryz.prog.plainKeys))=true:=kD5
theorem readCanonF23:(Rows.readCanonRow.shortTexts.isNone)=true:=kD5
theorem readCanonF24:(Tryz.prog.stopsHeard)=true:=kD5
theorem readCanonF25:(Tryz.prog.mayEnter)=true:=kD5
theorem readCanonF26:((Rows.readCanonRow.lifted==Tryz.prog.liftsFinal))=true:=kD5
theorem readCanonF27:((Tryz.prog.make==some Rows.readCanonRow.make))=true:=kD5
theorem readCanonF29:((Rows.readCanonRow.pinned==Rows.readCanonRow.pinnedBy))=true:=kD5
theorem readCanonF30:((Rows.readCanonRow.veiled==(Tryz.f4.params.toList++Rows.readCanonSpec.plain.varTypes Tryz.prog++Tryz.f4.resultTypes.toList).any (Tryz.prog.veiledRec ·)))=true:=kD5
theorem readCanonF31:(Rows.readCanonRow.veiledFits Tryz.prog Tryz.f4.params.toList (Tryz.f4.params.toList++Rows.readCanonSpec.plain.varTypes Tryz.prog++Tryz.f4.resultTypes.toList))=true:=kD5
theorem zFm:joinedFacts Tryz.prog 4 Tryz.f4 Rows.readCanonSpec Rows.readCanonRow=true:=by
 unfold joinedFacts;rw[readCanonF0,readCanonF1,readCanonF2,readCanonF3,readCanonF4,readCanonF5,readCanonF6,readCanonF7,readCanonF8,readCanonF9,readCanonF10,readCanonF11,readCanonF12,readCanonF13,readCanonF14,readCanonF15,readCanonF16,readCanonF17,readCanonF18,readCanonF19,readCanonF20,readCanonF21,readCanonF22,readCanonF23,readCanonF24,readCanonF25,readCanonF26,readCanonF27,readCanonF29,readCanonF30,readCanonF31];kernel_rfl
theorem readCanon_inst:Tryz.f4.isInstance Tryz.prog Rows.readCanonRow.origin Rows.readCanonRow.targs:=kAn kD5
theorem readCanon_wrap:Tryz.f4.isWrapper Tryz.prog Rows.readCanonRow.wrapper Rows.readCanonRow.mainSum:=by
 unfold Func.isWrapper
 first | (rw[kAa (by decide +kernel)];kernel_rfl) | (rw[kA9 (by decide +kernel)];exact⟨rfl,rfl⟩)
theorem zFJ:Tryz.prog.funcNamed Rows.readCanonRow.func=some 4:=kD5
theorem zFK:true=Tryz.prog.looks []:=kD5
end
end Go.Proofs.YtjaobihcdkjmbaaGreatDoor
end
