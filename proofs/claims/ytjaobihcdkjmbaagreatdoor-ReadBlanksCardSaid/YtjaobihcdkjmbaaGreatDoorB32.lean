/- The law ReadBlanks answers true for every argument; a part of its proof. -/
import Derived.Test.YtjaobihcdkjmbaaGreatDoorBa
import Derived.Test.YtjaobihcdkjmbaaGreatDoorBb
import Derived.Test.YtjaobihcdkjmbaaGreatDoorTie
import Derived.Test.YtjaobihcdkjmbaaGreatDoorCards
import Derived.Test.YtjaobihcdkjmbaaGreatDoorB0
import Derived.Test.YtjaobihcdkjmbaaGreatDoorB7
import Derived.Test.YtjaobihcdkjmbaaGreatDoorB11
import Derived.Test.YtjaobihcdkjmbaaGreatDoorB14
import Derived.Test.YtjaobihcdkjmbaaGreatDoorB19
import Derived.Test.YtjaobihcdkjmbaaGreatDoorB23
set_option linter.unusedVariables false
set_option linter.unusedSimpArgs false
namespace Go.Proofs.YtjaobihcdkjmbaaGreatDoor.PReadTokens
end Go.Proofs.YtjaobihcdkjmbaaGreatDoor.PReadTokens
namespace Go.Proofs.YtjaobihcdkjmbaaGreatDoorW.PrintWords
end Go.Proofs.YtjaobihcdkjmbaaGreatDoorW.PrintWords
set_option maxRecDepth 100000
set_option maxHeartbeats 4000000
section
namespace Go.Proofs.YtjaobihcdkjmbaaGreatDoor
open Go.RowKit Go.Proofs.YtjaobihcdkjmbaaGreatDoorW.PrintWords Go.Proofs.YtjaobihcdkjmbaaGreatDoor.PReadTokens
theorem single_ref (b d name:ByteArray) (f:Int) (g:Value) (w:World) :
  Calls Tryz.prog 101 #[.agg #[.int .i64 1,.string b,.string d,.string name,.int .i64 f,g]] w fun e w'=>e=.returned (.string name)∧Below w.heap.size w w':=by
 go_enter Tryz.func101,Tryz.ntmps101;go_wp2;go_ret;exact⟨rfl,(kA3 _ w).alloc (kA2 _) _⟩
theorem text_ref (x:S31) (hop:x.f0=1) (hxs:x.f4=[]) (least:Int) (v:Value) (w:World) (hv:Vw w x v) (hsz:(zDA x).size≤1000000) :
  Calls Tryz.prog 58 #[v,.int .i64 least] w fun e w'=>e=.returned (.string (zAy x least))∧Below w.heap.size w w':=by
 obtain⟨A,c,rfl,hc1,hc2⟩:=hv.out;obtain⟨op,num,name,size,xs⟩:=x;simp only at *;subst hop hxs;obtain⟨r,hr⟩:∃r,r=zDA ⟨1,num,name,size,[]⟩:=⟨_,rfl⟩;obtain⟨R,hR⟩:∃R,R=zAy ⟨1,num,name,size,[]⟩ least:=⟨_,rfl⟩;have hR2:R=zFs r 5 least:=by rw[hR,hr];rfl
 rw[← hR];rw[← hr] at hsz;have HR2:=kA1 hR2;have hcat:r=name:=hr;have HCAT:=kA1 hcat;have HSZ:=kA1 hsz;clear hR hR2 hr hcat hsz;have hk:=zBg ⟨1,num,name,size,[]⟩ A 0 c;unfold exV at *;simp only[List.length_cons,List.length_nil,kAH,Nat.reduceAdd] at *;have t0:=ta156_150;have t1:=ta156_152;have t2:=ta156_154;have t3:=ta156_155;have t4:=ta156_156;have HK:=kA1 hk;have HC:=kA1 hc2;have HV:=kA1 hv;clear hk hc2 hv;go_enter Tryz.func58,Tryz.ntmps58;go_wp2_with fail;refine (HK.out _).mono ?_;rintro e w1 ⟨rfl,hb1⟩;have hk2:zDc (S31.mk 1 num name size []).f0=156:=rfl;rw[hk2];have hbw:=((kA3 _ w).alloc (kA2 _) (.cells #[.int .i64 1,.string num.f0,.string num.f1,.string name,.int .i64 size,.slice A 0 c] 31)).trans (hb1.mono kCV);have hbw2:=hbw.alloc hbw.size (.cells #[.int .i64 1,.string num.f0,.string num.f1,.string name,.int .i64 size,.slice A 0 c] 156);obtain rfl:r=name:=HCAT.out;have HT:=kA1 (fun b d f g w'=>single_ref b d r f g w');clear HV HC HK;go_wp2_with (go_at_call 101;refine (HT.out _ _ _ _ _).mono ?_;rintro e w3 ⟨rfl,hb3⟩);have hbw3:=hbw2.trans (hb3.mono hbw2.size);have HL:=kA1 (fun a b c d e f w'=>lev156 a b c d e f w');clear hb1 hb3 hbw hbw2 HCAT HT t0 t1 t2 t3 t4;have hm:=m156;have HB:=kA1 hbw3;have hrs:(cat [⟨#[40]⟩,r,⟨#[41]⟩]).size≤1000002:=by
  have hsz:=HSZ.out;rw[zDk];simp;have e1:(⟨#[40]⟩:ByteArray).size=1:=rfl;have e2:(⟨#[41]⟩:ByteArray).size=1:=rfl;omega
 have HS:=kA1 hrs;clear hrs
 cases hl':decide (5<least)
 ·have hl:=kA1 (kBm hl');go_wp2_with (go_at_call 312;refine (HL.out _ _ _ _ _ _ _).mono ?_;rintro e w4 ⟨rfl,hb4⟩);go_ret;exact⟨by rw[HR2.out,zDg kD7];rfl,HB.out.trans (hb4.mono HB.out.size)⟩
 ·have hl:=kA1 (kAl hl');go_wp2_with fail;refine (HL.out _ _ _ _ _ _ _).mono ?_;rintro e w4 ⟨rfl,hb4⟩;go_wp2_with fail;have hj:=zAK w4.heap.size [⟨#[40]⟩,r,⟨#[41]⟩] 9 _ (zA4 w4 _) kCV (kAB HS.out kCT);simp only[List.length_cons,List.length_nil] at hj;refine hj.mono ?_;rintro e w5 ⟨rfl,hb5⟩;go_wp2;go_ret;have h4:=HB.out.trans (hb4.mono HB.out.size);exact⟨by rw[HR2.out,zCI kD7];rfl,(h4.alloc h4.size (.cells #[.string ⟨#[40]⟩,.string r,.string ⟨#[41]⟩] 9)).trans (hb5.mono kDg)⟩
theorem text_pow (x y:S31) (hop:x.f0=7) (hxs:x.f4=[y]) (hs0:-9223372036854775808≤x.f3) (hs1:x.f3≤9223372036854775807) (least:Int) (v:Value) (w:World) (hv:Vw w x v) (hsz:(zDA x).size≤1000000) (htab:Tab w)
  (hrec:∀v w' ls,Vw w' y v→Below w.heap.size w w'→Calls Tryz.prog 58 #[v,.int .i64 ls] w' fun e w''=>e=.returned (.string (zAy y ls))∧Below w'.heap.size w' w'') :
  Calls Tryz.prog 58 #[v,.int .i64 least] w fun e w'=>e=.returned (.string (zAy x least))∧Below w.heap.size w w':=by
 obtain⟨A,c,rfl,hc1,hc2⟩:=hv.out;obtain⟨op,num,name,size,xs⟩:=x;simp only at *;subst hop hxs;obtain⟨r,hr⟩:∃r,r=zDA ⟨7,num,name,size,[y]⟩:=⟨_,rfl⟩;obtain⟨R,hR⟩:∃R,R=zAy ⟨7,num,name,size,[y]⟩ least:=⟨_,rfl⟩;have hR2:R=zFs r 3 least:=by rw[hR,hr];rfl
 rw[← hR];rw[← hr] at hsz;have HR2:=kA1 hR2;have hcat:r=cat [zAy y 4,⟨#[94]⟩,⟨(Lib.itoa size).toArray⟩]:=hr;have HCAT:=kA1 hcat;have HSZ:=kA1 hsz;clear hR hR2 hr hcat hsz;have hk:=zBg ⟨7,num,name,size,[y]⟩ A 1 c;unfold exV at *;simp only[List.length_cons,List.length_nil,kAH,Nat.reduceAdd] at *;have t0:=ta155_150;have t1:=ta155_152;have t2:=ta155_154;have t3:=ta155_155;have HK:=kA1 hk;have HC:=kA1 hc2;have HV:=kA1 hv;clear hk hc2 hv;have HR:=kA1 hrec;have HI:=kA1 (fun w' (h:Tab w')=>itoa_calls size hs0 hs1 w' h);have HT:=kA1 htab;clear hrec hs0 hs1 htab;go_enter Tryz.func58,Tryz.ntmps58;go_wp2_with fail;refine (HK.out _).mono ?_;rintro e w1 ⟨rfl,hb1⟩;have hk2:zDc (S31.mk 7 num name size [y]).f0=155:=rfl;rw[hk2];have hbw:=((kA3 _ w).alloc (kA2 _) (.cells #[.int .i64 7,.string num.f0,.string num.f1,.string name,.int .i64 size,.slice A 1 c] 31)).trans (hb1.mono kCV);have hbw2:=hbw.alloc hbw.size (.cells #[.int .i64 7,.string num.f0,.string num.f1,.string name,.int .i64 size,.slice A 1 c] 155);obtain⟨ad,A5,c5,rfl,q0,q1,q2,q3,q4,q5,hvw⟩:=zAo (xs:=[y]) (Kd.C_below HC.out hbw2) 0 kCV;simp only[List.getElem_cons_zero,kBh,kAO] at q0 q1 q2 q3 q4 q5 hvw;have hbl:=zA4 w1 (.cells #[.int .i64 7,.string num.f0,.string num.f1,.string name,.int .i64 size,.slice (some ad) 1 c] 155);go_wp2_with fail;refine (HR.out _ _ _ hvw hbw2).mono ?_;rintro e w2 ⟨rfl,hb2⟩;have hx2:=zA9 hb2 hbl;obtain⟨⟨p0,p1,p2,p3,p4,p5⟩,_,xl2⟩:=zA6 hx2;have hbx:=hbw2.trans (hb2.mono hbw2.size);go_wp2_with fail;refine (HI.out _ (HT.out.below hbx)).mono ?_;rintro e w6 ⟨rfl,hb6⟩;have hby:=hbx.trans (hb6.mono hbx.size);go_wp2_with fail;have hj:=zAK w6.heap.size [zAy y 4,⟨#[94]⟩,⟨(Lib.itoa size).toArray⟩] 9 _ (zA4 w6 _) kCV kDq;simp only[List.length_cons,List.length_nil] at hj;refine hj.mono ?_;rintro e w3 ⟨rfl,hb3⟩;rw[← HCAT.out];have hbw3:=(hby.alloc hby.size (.cells #[.string (zAy y 4),.string ⟨#[94]⟩,.string ⟨(Lib.itoa size).toArray⟩] 9)).trans (hb3.mono (by simp;have:=hby.size;omega));have HL:=kA1 (fun b c d e f w'=>lev155 7 (.inl rfl) b c d e f w');clear hj hb1 hb2 hb3 hb6 HV HC HR HK q0 q1 q2 q3 q4 q5 hvw hbw hbw2 hbx hby hbl hx2 p0 p1 p2 p3 p4 p5 xl2 HI HT;have hm:=m155;have HB:=kA1 hbw3;have hrs:(cat [⟨#[40]⟩,r,⟨#[41]⟩]).size≤1000002:=by
  have hsz:=HSZ.out;rw[zDk];simp;have e1:(⟨#[40]⟩:ByteArray).size=1:=rfl;have e2:(⟨#[41]⟩:ByteArray).size=1:=rfl;omega
 have HS:=kA1 hrs;clear hrs
 cases hl':decide (3<least)
 ·have hl:=kA1 (kBm hl');go_wp2_with (go_at_call 311;refine (HL.out _ _ _ _ _ _).mono ?_;rintro e w4 ⟨rfl,hb4⟩);go_ret;exact⟨by rw[HR2.out,zDg kD7];rfl,HB.out.trans (hb4.mono HB.out.size)⟩
 ·have hl:=kA1 (kAl hl');go_wp2_with fail;refine (HL.out _ _ _ _ _ _).mono ?_;rintro e w4 ⟨rfl,hb4⟩;go_wp2_with fail;have hj:=zAK w4.heap.size [⟨#[40]⟩,r,⟨#[41]⟩] 9 _ (zA4 w4 _) kCV (kAB HS.out kCT);simp only[List.length_cons,List.length_nil] at hj;refine hj.mono ?_;rintro e w5 ⟨rfl,hb5⟩;go_wp2;go_ret;have h4:=HB.out.trans (hb4.mono HB.out.size);exact⟨by rw[HR2.out,zCI kD7];rfl,(h4.alloc h4.size (.cells #[.string ⟨#[40]⟩,.string r,.string ⟨#[41]⟩] 9)).trans (hb5.mono kDg)⟩
end Go.Proofs.YtjaobihcdkjmbaaGreatDoor
end
section
namespace Go.Proofs.YtjaobihcdkjmbaaGreatDoor
open Go.RowKit Go.ChangeShapes Go.WideShapes Go.ChangeAt
abbrev laidL : List (String × DataW Unit) := [("math/bits.deBruijn32tab", Rows.laid_math_bits_deBruijn32tab), ("math/bits.deBruijn64tab", Rows.laid_math_bits_deBruijn64tab), ("internal/strconv.uint64pow10", Rows.laid_internal_strconv_uint64pow10), ("errors.errorType", Rows.laid_errors_errorType), ("strconv.ErrRange", Rows.laid_strconv_ErrRange), ("strconv.ErrSyntax", Rows.laid_strconv_ErrSyntax)]
theorem noKnob:ownKnob Tryz.prog.godebug=none:=kCU
theorem gErr : Tryz.prog.globalNamed "errors.errorType" = some 0 := by kernel_rfl
theorem gPow : Tryz.prog.globalNamed "internal/strconv.uint64pow10" = some 2 := by kernel_rfl
theorem gSyn : Tryz.prog.globalNamed "strconv.ErrSyntax" = some 5 := by kernel_rfl
theorem gRng : Tryz.prog.globalNamed "strconv.ErrRange" = some 6 := by kernel_rfl
theorem tSyn:(Tryz.prog.globals[5]?).map (·.type)=some 134:=kCU
theorem tRng:(Tryz.prog.globals[6]?).map (·.type)=some 134:=kCU
theorem starE : "*" ++ "errors.errorString" = "*errors.errorString" := by decide
theorem row337 (u : TypeId) (h : Tryz.prog.typeName? 3 u = some "*errors.errorString") : u = 337 :=
 typeName_ptr_named (nm := "errors.errorString") (by rw [starE]; kernel_rfl) kCU kCW u (by rw [starE]; exact h)
theorem cells339:Tryz.prog.cellsOf 339=1:=kCU
theorem cells9':Tryz.prog.cellsOf 9=1:=kCU
theorem rtypeRow : (Tryz.prog.cutTypes.find? (·.1 == "internal/reflectlite.rtype")).map (·.2) = some 209 := by kernel_rfl
theorem errorRow:((List.range 367).filter fun t=>Tryz.prog.rowNamed t [101,114,114,111,114])=[134]:=kCU
theorem typesSize:Tryz.prog.types.size=367:=kCU
theorem filtH : (laidL.filter fun x => x.2.handleName?.isSome) = [("errors.errorType", Rows.laid_errors_errorType)] := rfl
theorem filtN : (laidL.filter fun x => x.2.handleName?.isNone) = [("math/bits.deBruijn32tab", Rows.laid_math_bits_deBruijn32tab), ("math/bits.deBruijn64tab", Rows.laid_math_bits_deBruijn64tab), ("internal/strconv.uint64pow10", Rows.laid_internal_strconv_uint64pow10), ("strconv.ErrRange", Rows.laid_strconv_ErrRange), ("strconv.ErrSyntax", Rows.laid_strconv_ErrSyntax)] := rfl
theorem laid_parts {W : World} (h : laidMetH Tryz.prog laidL W) : laidMet Tryz.prog [("math/bits.deBruijn32tab", Rows.laid_math_bits_deBruijn32tab), ("math/bits.deBruijn64tab", Rows.laid_math_bits_deBruijn64tab), ("internal/strconv.uint64pow10", Rows.laid_internal_strconv_uint64pow10), ("strconv.ErrRange", Rows.laid_strconv_ErrRange), ("strconv.ErrSyntax", Rows.laid_strconv_ErrSyntax)] W ∧ handlesMet Tryz.prog [("errors.errorType", Rows.laid_errors_errorType)] W := by
 unfold laidMetH at h;rw[filtH,filtN] at h;exact h
theorem start_of_laid {W:World} (h:laidMetH Tryz.prog laidL W):Start W∧Tab W:=by
 obtain⟨hd,hh⟩:=laid_parts h;obtain⟨name,u,ty,e1,e2,e3,e4,e5⟩:=hh _ (kBu.2 rfl);have en:name=[101,114,114,111,114]:=(kAg e1).symm;subst en;obtain rfl:=kAg (rtypeRow.symm.trans e2);have hm:ty∈(List.range 367).filter fun t=>Tryz.prog.rowNamed t [101,114,114,111,114]:=List.mem_filter.2 ⟨kBO.2 (by rw[← typesSize];exact e3),e4⟩
 rw[errorRow] at hm;obtain rfl:=kBu.1 hm;have hth:typeHandle Tryz.prog 134=.pointer (some ⟨7,134,none⟩):=As.handle134;rw[hth] at e5;have h2:=hd.tail.tail;have h3:=h2.tail;have h4:=h3.tail;obtain⟨a6,_,hv6,_⟩:=laid_sentinel h3 gRng tRng Tryz.underlying134 row337 Tryz.underlying337 Tryz.underlying339 rfl rfl Tryz.underlying9 cells339 cells9';obtain⟨a5,_,hv5,_⟩:=laid_sentinel h4 gSyn tSyn Tryz.underlying134 row337 Tryz.underlying337 Tryz.underlying339 rfl rfl Tryz.underlying9 cells339 cells9';refine⟨⟨⟨⟨_,_,by simpa using World.var?_cell gSyn hv5 0⟩,⟨_,_,by simpa using World.var?_cell gRng hv6 0⟩⟩,by simpa using World.var?_cell gErr e5 0⟩,?_⟩;exact Lib.tabIs_of_head (t:=275) (e:=75) (n:=20) gPow kCU kCU kCU kCU kCU h2
theorem door_met (os:Os) (args:Array Value):laidMetH Tryz.prog laidL ((World.doorLaid Tryz.prog 69 os).forCall (fun _ _=>0) ⟨#[],args,[]⟩).memory :=
 laidMetH_of_parts3 (fuel:=8) (laidMet_of_run' 8 kCU kCU) kCU kCU
theorem laidOut:laidOutB Tryz.prog=true:=kCU
theorem trodAll_below {H:Type} {enc:TypeId×Value→H} {W W':World} (hb:Below W.heap.size W W'):∀(ts:List TypeId) (vs:List Value) (ds:List (DataW H)) (ps:List MemPlace),(∀t∈ts,Tryz.prog.readableRec t=true∧t<Tryz.prog.types.size) →
  DataW.TrodAll enc Tryz.prog W 0 (fun _=>true) true ts vs ds ps→(∀x∈ps,x.block<W.heap.size)→DataW.TrodAll enc Tryz.prog W' 0 (fun b=>decide (b<W.heap.size)) true ts vs ds ps:=by
 intro ts
 induction ts with
 | nil =>
  intro vs ds ps _ h _
  cases vs with
  | nil=>cases ds with
   | nil=>exact h
   | cons d ds=>exact h.elim
  | cons v vs=>exact h.elim
 | cons t ts ih =>
  intro vs ds ps ht h hlt
  cases vs with
  | nil=>exact h.elim
  | cons v vs =>
   cases ds with
   | nil=>exact h.elim
   | cons d ds =>
    obtain⟨p,q,h1,h2,rfl⟩:=h;have h3:=ht t kAJ;exact⟨p,q,Below.trod laidOut h3.1 h3.2 h1 hb (fun x hx=>hlt x (kCk _ hx)),ih vs ds q (fun t h=>ht t (kAK _ h)) h2 (fun x hx=>hlt x (List.mem_append_right _ hx)),rfl⟩
end Go.Proofs.YtjaobihcdkjmbaaGreatDoor
end
