/- What can be read as an expression is printed as a text that reads as the same, and is printed as itself: for every argument; a part of its proof. -/
import Derived.Test.YtjaobihcdkjmbaaGreatDoorDa
import Derived.Test.YtjaobihcdkjmbaaGreatDoorDb
import Derived.Test.YtjaobihcdkjmbaaGreatDoorTie
import Derived.Test.YtjaobihcdkjmbaaGreatDoorCards
import Derived.Test.YtjaobihcdkjmbaaGreatDoorD13
import Derived.Test.YtjaobihcdkjmbaaGreatDoorD16
import Derived.Test.YtjaobihcdkjmbaaGreatDoorD17
import Derived.Test.YtjaobihcdkjmbaaGreatDoorD21
set_option linter.unusedVariables false
set_option linter.unusedSimpArgs false
section
namespace Go.Proofs.YtjaobihcdkjmbaaGreatDoor
open Go.RowKit Go.ChangeShapes Go.WideShapes Go.ChangeAt
abbrev laidL : List (String × DataW Unit) := [("math/bits.deBruijn32tab", Rows.laid_math_bits_deBruijn32tab), ("math/bits.deBruijn64tab", Rows.laid_math_bits_deBruijn64tab), ("internal/strconv.uint64pow10", Rows.laid_internal_strconv_uint64pow10), ("errors.errorType", Rows.laid_errors_errorType), ("strconv.ErrRange", Rows.laid_strconv_ErrRange), ("strconv.ErrSyntax", Rows.laid_strconv_ErrSyntax)]
theorem noKnob:ownKnob Tryz.prog.godebug=none:=kD5
theorem gErr : Tryz.prog.globalNamed "errors.errorType" = some 0 := by kernel_rfl
theorem gPow : Tryz.prog.globalNamed "internal/strconv.uint64pow10" = some 2 := by kernel_rfl
theorem gSyn : Tryz.prog.globalNamed "strconv.ErrSyntax" = some 5 := by kernel_rfl
theorem gRng : Tryz.prog.globalNamed "strconv.ErrRange" = some 6 := by kernel_rfl
theorem tSyn:(Tryz.prog.globals[5]?).map (·.type)=some 134:=kD5
theorem tRng:(Tryz.prog.globals[6]?).map (·.type)=some 134:=kD5
theorem starE : "*" ++ "errors.errorString" = "*errors.errorString" := by decide
theorem row337 (u : TypeId) (h : Tryz.prog.typeName? 3 u = some "*errors.errorString") : u = 337 :=
 typeName_ptr_named (nm := "errors.errorString") (by rw [starE]; kernel_rfl) kD5 kD7 u (by rw [starE]; exact h)
theorem cells339:Tryz.prog.cellsOf 339=1:=kD5
theorem cells9':Tryz.prog.cellsOf 9=1:=kD5
theorem rtypeRow : (Tryz.prog.cutTypes.find? (·.1 == "internal/reflectlite.rtype")).map (·.2) = some 209 := by kernel_rfl
theorem errorRow:((List.range 367).filter fun t=>Tryz.prog.rowNamed t [101,114,114,111,114])=[134]:=kD5
theorem typesSize:Tryz.prog.types.size=367:=kD5
theorem filtH : (laidL.filter fun x => x.2.handleName?.isSome) = [("errors.errorType", Rows.laid_errors_errorType)] := rfl
theorem filtN : (laidL.filter fun x => x.2.handleName?.isNone) = [("math/bits.deBruijn32tab", Rows.laid_math_bits_deBruijn32tab), ("math/bits.deBruijn64tab", Rows.laid_math_bits_deBruijn64tab), ("internal/strconv.uint64pow10", Rows.laid_internal_strconv_uint64pow10), ("strconv.ErrRange", Rows.laid_strconv_ErrRange), ("strconv.ErrSyntax", Rows.laid_strconv_ErrSyntax)] := rfl
theorem laid_parts {W : World} (h : laidMetH Tryz.prog laidL W) : laidMet Tryz.prog [("math/bits.deBruijn32tab", Rows.laid_math_bits_deBruijn32tab), ("math/bits.deBruijn64tab", Rows.laid_math_bits_deBruijn64tab), ("internal/strconv.uint64pow10", Rows.laid_internal_strconv_uint64pow10), ("strconv.ErrRange", Rows.laid_strconv_ErrRange), ("strconv.ErrSyntax", Rows.laid_strconv_ErrSyntax)] W ∧ handlesMet Tryz.prog [("errors.errorType", Rows.laid_errors_errorType)] W := by
 unfold laidMetH at h;rw[filtH,filtN] at h;exact h
theorem start_of_laid {W:World} (h:laidMetH Tryz.prog laidL W):Start W∧Tab W:=by
 obtain⟨hd,hh⟩:=laid_parts h;obtain⟨name,u,ty,e1,e2,e3,e4,e5⟩:=hh _ (kBt.2 rfl);have en:name=[101,114,114,111,114]:=(kAg e1).symm;subst en;obtain rfl:=kAg (rtypeRow.symm.trans e2);have hm:ty∈(List.range 367).filter fun t=>Tryz.prog.rowNamed t [101,114,114,111,114]:=List.mem_filter.2 ⟨kBY.2 (by rw[← typesSize];exact e3),e4⟩
 rw[errorRow] at hm;obtain rfl:=kBt.1 hm;have hth:typeHandle Tryz.prog 134=.pointer (some ⟨7,134,none⟩):=As.handle134;rw[hth] at e5;have h2:=hd.tail.tail;have h3:=h2.tail;have h4:=h3.tail;obtain⟨a6,_,hv6,_⟩:=laid_sentinel h3 gRng tRng Tryz.underlying134 row337 Tryz.underlying337 Tryz.underlying339 rfl rfl Tryz.underlying9 cells339 cells9';obtain⟨a5,_,hv5,_⟩:=laid_sentinel h4 gSyn tSyn Tryz.underlying134 row337 Tryz.underlying337 Tryz.underlying339 rfl rfl Tryz.underlying9 cells339 cells9';refine⟨⟨⟨⟨_,_,by simpa using World.var?_cell gSyn hv5 0⟩,⟨_,_,by simpa using World.var?_cell gRng hv6 0⟩⟩,by simpa using World.var?_cell gErr e5 0⟩,?_⟩;exact Lib.tabIs_of_head (t:=275) (e:=75) (n:=20) gPow kD5 kD5 kD5 kD5 kD5 h2
theorem door_met (os:Os) (args:Array Value):laidMetH Tryz.prog laidL ((World.doorLaid Tryz.prog 69 os).forCall (fun _ _=>0) ⟨#[],args,[]⟩).memory :=
 laidMetH_of_parts3 (fuel:=8) (laidMet_of_run' 8 kD5 kD5) kD5 kD5
theorem laidOut:laidOutB Tryz.prog=true:=kD5
theorem trodAll_below {H:Type} {enc:TypeId×Value→H} {W W':World} (hb:Below W.heap.size W W'):∀(ts:List TypeId) (vs:List Value) (ds:List (DataW H)) (ps:List MemPlace),(∀t∈ts,Tryz.prog.readableRec t=true∧t<Tryz.prog.types.size) →
  DataW.TrodAll enc Tryz.prog W 0 (fun _=>true) true ts vs ds ps→(∀x∈ps,x.block<W.heap.size)→DataW.TrodAll enc Tryz.prog W' 0 (fun b=>decide (b<W.heap.size)) true ts vs ds ps:=by
 intro ts
 induction ts with
 | nil =>
  intro vs ds ps _ h _
  cases vs with
  | nil=>cases ds with
   | nil=>exact h
   | cons d ds=>exact h.elim
  | cons v vs=>exact h.elim
 | cons t ts ih =>
  intro vs ds ps ht h hlt
  cases vs with
  | nil=>exact h.elim
  | cons v vs =>
   cases ds with
   | nil=>exact h.elim
   | cons d ds =>
    obtain⟨p,q,h1,h2,rfl⟩:=h;have h3:=ht t kAQ;exact⟨p,q,Below.trod laidOut h3.1 h3.2 h1 hb (fun x hx=>hlt x (kCS _ hx)),ih vs ds q (fun t h=>ht t (kAM _ h)) h2 (fun x hx=>hlt x (List.mem_append_right _ hx)),rfl⟩
end Go.Proofs.YtjaobihcdkjmbaaGreatDoor
end
