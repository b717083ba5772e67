/- The law ReadPlace answers true for every argument; a part of its proof. -/
import Derived.Test.YtjaobihcdkjmbaaGreatDoorCa
import Derived.Test.YtjaobihcdkjmbaaGreatDoorCb
import Derived.Test.YtjaobihcdkjmbaaGreatDoorCards
set_option linter.unusedVariables false
set_option linter.unusedSimpArgs false
set_option maxRecDepth 100000
section
namespace Go.Proofs.YtjaobihcdkjmbaaGreatDoor
section
theorem readPlaceF0:(Rows.readPlaceRow.wf (OpenSpec.ofChange Rows.readPlaceSpec))=true:=kCX
theorem readPlaceF1:(laidOutB Tryz.prog)=true:=kCX
theorem readPlaceF2:(mapsRowed Tryz.prog)=true:=kCX
theorem readPlaceF3:(Tryz.f6.params.all (Tryz.prog.readableRec ·))=true:=kCX
theorem readPlaceF4:(namedTie Tryz.prog Rows.readPlaceRow.named Rows.readPlaceSpec.vars)=true:=kCX
theorem readPlaceF5:((Rows.readPlaceRow.stops == []))=true:=kCX
theorem readPlaceF6:((Tryz.prog.stops == []))=true:=kCX
theorem readPlaceF7:((Rows.readPlaceRow.knobs == []))=true:=kCX
theorem readPlaceF8:((Tryz.prog.stopKnobs == []))=true:=kCX
theorem readPlaceF9:((Rows.readPlaceRow.inPlace==Tryz.prog.inPlace 6))=true:=kCX
theorem readPlaceF10:((Rows.readPlaceRow.unfollowed==Tryz.prog.unfollowed 6))=true:=kCX
theorem readPlaceF11:((Rows.readPlaceRow.recurses==Tryz.prog.recurses 6))=true:=kCX
theorem readPlaceF12:((Rows.readPlaceRow.named==Tryz.prog.varsNamed 6))=true:=kCX
theorem readPlaceF13:((Rows.readPlaceRow.maps==(Tryz.f6.params.toList++Rows.readPlaceSpec.plain.varTypes Tryz.prog).any (Tryz.prog.mapsRec ·)))=true:=kCX
theorem readPlaceF14:((Rows.readPlaceRow.ifaces==(Tryz.f6.params.toList++Rows.readPlaceSpec.plain.varTypes Tryz.prog).any (Tryz.prog.ifacesRec ·)))=true:=kCX
theorem readPlaceF15:((Rows.readPlaceRow.mapsOut==Tryz.prog.mapsAmong Tryz.f6.resultTypes.toList))=true:=kCX
theorem readPlaceF16:((Rows.readPlaceRow.loops==(Tryz.f6.params.toList++Rows.readPlaceSpec.plain.varTypes Tryz.prog).any (Tryz.prog.loopsFrom ·)))=true:=kCX
theorem readPlaceF17:((Rows.readPlaceRow.wideKeys==(Tryz.f6.params.toList++Rows.readPlaceSpec.plain.varTypes Tryz.prog++Tryz.f6.resultTypes.toList).any (Tryz.prog.wideKeysFrom ·)))=true:=kCX
theorem readPlaceF18:(Rows.readPlaceSpec.vars.all (Tryz.prog.varReadable ·))=true:=kCX
theorem readPlaceF19:(Tryz.f6.resultTypes.all (fun t=>Tryz.prog.readableRec t&&decide (t<Tryz.prog.types.size)))=true:=kCX
theorem readPlaceF20:((Rows.readPlaceRow.ifacesOut==Tryz.f6.resultTypes.toList.any (Tryz.prog.ifacesRec ·)))=true:=kCX
theorem readPlaceF21:((Rows.readPlaceRow.loopsOut==Tryz.f6.resultTypes.toList.any (Tryz.prog.loopsFrom ·)))=true:=kCX
theorem readPlaceF22:((Rows.readPlaceRow.plainKeys==Tryz.prog.plainKeys))=true:=kCX
theorem readPlaceF23:(Rows.readPlaceRow.shortTexts.isNone)=true:=kCX
theorem readPlaceF24:(Tryz.prog.stopsHeard)=true:=kCX
theorem readPlaceF25:(Tryz.prog.mayEnter)=true:=kCX
theorem readPlaceF26:((Rows.readPlaceRow.lifted==Tryz.prog.liftsFinal))=true:=kCX
theorem readPlaceF27:((Tryz.prog.make==some Rows.readPlaceRow.make))=true:=kCX
theorem readPlaceF29:((Rows.readPlaceRow.pinned==Rows.readPlaceRow.pinnedBy))=true:=kCX
theorem readPlaceF30:((Rows.readPlaceRow.veiled==(Tryz.f6.params.toList++Rows.readPlaceSpec.plain.varTypes Tryz.prog++Tryz.f6.resultTypes.toList).any (Tryz.prog.veiledRec ·)))=true:=kCX
theorem readPlaceF31:(Rows.readPlaceRow.veiledFits Tryz.prog Tryz.f6.params.toList (Tryz.f6.params.toList++Rows.readPlaceSpec.plain.varTypes Tryz.prog++Tryz.f6.resultTypes.toList))=true:=kCX
theorem zFs:joinedFacts Tryz.prog 6 Tryz.f6 Rows.readPlaceSpec Rows.readPlaceRow=true:=by
 unfold joinedFacts;rw[readPlaceF0,readPlaceF1,readPlaceF2,readPlaceF3,readPlaceF4,readPlaceF5,readPlaceF6,readPlaceF7,readPlaceF8,readPlaceF9,readPlaceF10,readPlaceF11,readPlaceF12,readPlaceF13,readPlaceF14,readPlaceF15,readPlaceF16,readPlaceF17,readPlaceF18,readPlaceF19,readPlaceF20,readPlaceF21,readPlaceF22,readPlaceF23,readPlaceF24,readPlaceF25,readPlaceF26,readPlaceF27,readPlaceF29,readPlaceF30,readPlaceF31];kernel_rfl
theorem readPlace_inst:Tryz.f6.isInstance Tryz.prog Rows.readPlaceRow.origin Rows.readPlaceRow.targs:=kA8 kCX
theorem readPlace_wrap:Tryz.f6.isWrapper Tryz.prog Rows.readPlaceRow.wrapper Rows.readPlaceRow.mainSum:=by
 unfold Func.isWrapper
 first | (rw[kAb (by decide +kernel)];kernel_rfl) | (rw[kAa (by decide +kernel)];exact⟨rfl,rfl⟩)
theorem zFN:Tryz.prog.funcNamed Rows.readPlaceRow.func=some 6:=kCX
theorem zFO:true=Tryz.prog.looks []:=kCX
end
end Go.Proofs.YtjaobihcdkjmbaaGreatDoor
end
