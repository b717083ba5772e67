/- The law ReadBlanks answers true for every argument; a part of its proof. -/
import Derived.Test.YtjaobihcdkjmbaaGreatDoorBa
import Derived.Test.YtjaobihcdkjmbaaGreatDoorBb
import Derived.Test.YtjaobihcdkjmbaaGreatDoorCards
set_option linter.unusedVariables false
set_option linter.unusedSimpArgs false
set_option maxRecDepth 100000
section
namespace Go.Proofs.YtjaobihcdkjmbaaGreatDoor
section
theorem readBlanksF0:(Rows.readBlanksRow.wf (OpenSpec.ofChange Rows.readBlanksSpec))=true:=kCU
theorem readBlanksF1:(laidOutB Tryz.prog)=true:=kCU
theorem readBlanksF2:(mapsRowed Tryz.prog)=true:=kCU
theorem readBlanksF3:(Tryz.f5.params.all (Tryz.prog.readableRec ·))=true:=kCU
theorem readBlanksF4:(namedTie Tryz.prog Rows.readBlanksRow.named Rows.readBlanksSpec.vars)=true:=kCU
theorem readBlanksF5:((Rows.readBlanksRow.stops == []))=true:=kCU
theorem readBlanksF6:((Tryz.prog.stops == []))=true:=kCU
theorem readBlanksF7:((Rows.readBlanksRow.knobs == []))=true:=kCU
theorem readBlanksF8:((Tryz.prog.stopKnobs == []))=true:=kCU
theorem readBlanksF9:((Rows.readBlanksRow.inPlace==Tryz.prog.inPlace 5))=true:=kCU
theorem readBlanksF10:((Rows.readBlanksRow.unfollowed==Tryz.prog.unfollowed 5))=true:=kCU
theorem readBlanksF11:((Rows.readBlanksRow.recurses==Tryz.prog.recurses 5))=true:=kCU
theorem readBlanksF12:((Rows.readBlanksRow.named==Tryz.prog.varsNamed 5))=true:=kCU
theorem readBlanksF13:((Rows.readBlanksRow.maps==(Tryz.f5.params.toList++Rows.readBlanksSpec.plain.varTypes Tryz.prog).any (Tryz.prog.mapsRec ·)))=true:=kCU
theorem readBlanksF14:((Rows.readBlanksRow.ifaces==(Tryz.f5.params.toList++Rows.readBlanksSpec.plain.varTypes Tryz.prog).any (Tryz.prog.ifacesRec ·)))=true:=kCU
theorem readBlanksF15:((Rows.readBlanksRow.mapsOut==Tryz.prog.mapsAmong Tryz.f5.resultTypes.toList))=true:=kCU
theorem readBlanksF16:((Rows.readBlanksRow.loops==(Tryz.f5.params.toList++Rows.readBlanksSpec.plain.varTypes Tryz.prog).any (Tryz.prog.loopsFrom ·)))=true:=kCU
theorem readBlanksF17:((Rows.readBlanksRow.wideKeys==(Tryz.f5.params.toList++Rows.readBlanksSpec.plain.varTypes Tryz.prog++Tryz.f5.resultTypes.toList).any (Tryz.prog.wideKeysFrom ·)))=true:=kCU
theorem readBlanksF18:(Rows.readBlanksSpec.vars.all (Tryz.prog.varReadable ·))=true:=kCU
theorem readBlanksF19:(Tryz.f5.resultTypes.all (fun t=>Tryz.prog.readableRec t&&decide (t<Tryz.prog.types.size)))=true:=kCU
theorem readBlanksF20:((Rows.readBlanksRow.ifacesOut==Tryz.f5.resultTypes.toList.any (Tryz.prog.ifacesRec ·)))=true:=kCU
theorem readBlanksF21:((Rows.readBlanksRow.loopsOut==Tryz.f5.resultTypes.toList.any (Tryz.prog.loopsFrom ·)))=true:=kCU
theorem readBlanksF22:((Rows.readBlanksRow.plainKeys==Tryz.prog.plainKeys))=true:=kCU
theorem readBlanksF23:(Rows.readBlanksRow.shortTexts.isNone)=true:=kCU
theorem readBlanksF24:(Tryz.prog.stopsHeard)=true:=kCU
theorem readBlanksF25:(Tryz.prog.mayEnter)=true:=kCU
theorem readBlanksF26:((Rows.readBlanksRow.lifted==Tryz.prog.liftsFinal))=true:=kCU
theorem readBlanksF27:((Tryz.prog.make==some Rows.readBlanksRow.make))=true:=kCU
theorem readBlanksF29:((Rows.readBlanksRow.pinned==Rows.readBlanksRow.pinnedBy))=true:=kCU
theorem readBlanksF30:((Rows.readBlanksRow.veiled==(Tryz.f5.params.toList++Rows.readBlanksSpec.plain.varTypes Tryz.prog++Tryz.f5.resultTypes.toList).any (Tryz.prog.veiledRec ·)))=true:=kCU
theorem readBlanksF31:(Rows.readBlanksRow.veiledFits Tryz.prog Tryz.f5.params.toList (Tryz.f5.params.toList++Rows.readBlanksSpec.plain.varTypes Tryz.prog++Tryz.f5.resultTypes.toList))=true:=kCU
theorem zEK:joinedFacts Tryz.prog 5 Tryz.f5 Rows.readBlanksSpec Rows.readBlanksRow=true:=by
 unfold joinedFacts;rw[readBlanksF0,readBlanksF1,readBlanksF2,readBlanksF3,readBlanksF4,readBlanksF5,readBlanksF6,readBlanksF7,readBlanksF8,readBlanksF9,readBlanksF10,readBlanksF11,readBlanksF12,readBlanksF13,readBlanksF14,readBlanksF15,readBlanksF16,readBlanksF17,readBlanksF18,readBlanksF19,readBlanksF20,readBlanksF21,readBlanksF22,readBlanksF23,readBlanksF24,readBlanksF25,readBlanksF26,readBlanksF27,readBlanksF29,readBlanksF30,readBlanksF31];kernel_rfl
theorem zFE:Tryz.f5.isInstance Tryz.prog Rows.readBlanksRow.origin Rows.readBlanksRow.targs:=kAl kCU
theorem zFD:Tryz.f5.isWrapper Tryz.prog Rows.readBlanksRow.wrapper Rows.readBlanksRow.mainSum:=by
 unfold Func.isWrapper
 first | (rw[kAa (by decide +kernel)];kernel_rfl) | (rw[kA9 (by decide +kernel)];exact⟨rfl,rfl⟩)
theorem zFd:Tryz.prog.funcNamed Rows.readBlanksRow.func=some 5:=kCU
theorem zFe:true=Tryz.prog.looks []:=kCU
end
end Go.Proofs.YtjaobihcdkjmbaaGreatDoor
end
