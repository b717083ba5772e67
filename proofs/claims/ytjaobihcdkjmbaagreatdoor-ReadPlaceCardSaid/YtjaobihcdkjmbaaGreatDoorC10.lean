/- The law ReadPlace answers true for every argument; a part of its proof. -/
import Derived.Test.YtjaobihcdkjmbaaGreatDoorCa
import Derived.Test.YtjaobihcdkjmbaaGreatDoorCb
import Derived.Test.YtjaobihcdkjmbaaGreatDoorC0
import Derived.Test.YtjaobihcdkjmbaaGreatDoorC1
import Derived.Test.YtjaobihcdkjmbaaGreatDoorC2
import Derived.Test.YtjaobihcdkjmbaaGreatDoorC7
import Derived.Test.YtjaobihcdkjmbaaGreatDoorC8
set_option linter.unusedVariables false
set_option linter.unusedSimpArgs false
namespace Go.Proofs.YtjaobihcdkjmbaaGreatDoor.PReadTokens
end Go.Proofs.YtjaobihcdkjmbaaGreatDoor.PReadTokens
namespace Go.Proofs.YtjaobihcdkjmbaaGreatDoorW.PrintLast
end Go.Proofs.YtjaobihcdkjmbaaGreatDoorW.PrintLast
namespace Go.Proofs.YtjaobihcdkjmbaaGreatDoorW.PrintMore
end Go.Proofs.YtjaobihcdkjmbaaGreatDoorW.PrintMore
namespace Go.Proofs.YtjaobihcdkjmbaaGreatDoorW.PrintWords
end Go.Proofs.YtjaobihcdkjmbaaGreatDoorW.PrintWords
set_option maxRecDepth 100000
set_option maxHeartbeats 8000000
section
namespace Go.Proofs.YtjaobihcdkjmbaaGreatDoor.PReadTokens
open Go.RowKit Go.Proofs.YtjaobihcdkjmbaaGreatDoorW.PrintWords Go.Proofs.YtjaobihcdkjmbaaGreatDoorW.PrintLast Go.Proofs.YtjaobihcdkjmbaaGreatDoorW.PrintMore
section
attribute [local go_sem] zCG zCE zDx zDw zC9 zC8 zCF zCD   -- for this text's walks alone
set_option linter.unusedVariables false
set_option linter.unusedSimpArgs false
def strings_HasPrefix.f (a0:ByteArray) (a1:ByteArray):Option (Bool):=(stringslite_HasPrefix.f a0 a1).bind fun t155=>(some t155)
theorem strings_HasPrefix.calls (a0:ByteArray) (a1:ByteArray) (r:Bool) (w:World) (h:strings_HasPrefix.f a0 a1=some r) :
  Calls Tryz.prog 227 #[.string a0,.string a1] w fun e w'=>e=.returned (.bool r)∧Drawn0 w w':=by
 have H:((stringslite_HasPrefix.f a0 a1).bind fun t155=>(some t155))=some r:=h;clear h;replace H:=Option.bind_eq_some_iff.mp H;obtain⟨t155,A30,H⟩:=H;replace H:(some t155)=some r:=H;have A3:=Aside0.mk A30;clear A30;obtain rfl:=kAc H;go_enter Tryz.func227,Tryz.ntmps227;go_wp2_with (first | ((with_reducible refine zAc (f:=177) rfl ?_);refine zAQ (some 7) rfl rfl Tryz.func177 kCX rfl #[.string a0,.string a1] rfl kD4 ?_;(with_reducible refine (stringslite_HasPrefix.calls a0 a1 t155 _ A3.out).mono ?_);rintro e w' ⟨rfl,⟨nd,rfl⟩⟩;refine⟨_,rfl,?_⟩));go_ret;exact⟨kD8,by repeat (first | exact Drawn0.refl _ | apply Drawn0.step)⟩
def cmp_isNaN_int.f (a0:Int):Option (Bool):=some (a0 != a0)
theorem cmp_isNaN_int.calls (a0:Int) (r:Bool) (w:World) (h:cmp_isNaN_int.f a0=some r) :
  Calls Tryz.prog 283 #[.int .i64 a0] w fun e w'=>e=.returned (.bool r)∧Drawn0 w w':=by
 have H:(some (a0 != a0))=some r:=h;clear h;obtain rfl:=kAc H;go_enter Tryz.func283,Tryz.ntmps283;go_wp2;go_ret;exact⟨kD8,by repeat (first | exact Drawn0.refl _ | apply Drawn0.step)⟩
def cmp_Compare_int.f (a0:Int) (a1:Int):Option (Int):=(cmp_isNaN_int.f a0).bind fun t164=>((cmp_isNaN_int.f a1).bind fun t165=>(if t164=true then (if t165=true then (some 0) else (some (-1))) else (if t165=true then (some 1) else (if a0<a1 then (some (-1)) else (if a0 > a1 then (some 1) else (some 0))))))
theorem cmp_Compare_int.calls (a0:Int) (a1:Int) (r:Int) (w:World) (h:cmp_Compare_int.f a0 a1=some r) :
  Calls Tryz.prog 263 #[.int .i64 a0,.int .i64 a1] w fun e w'=>e=.returned (.int .i64 r)∧Drawn0 w w':=by
 have H:((cmp_isNaN_int.f a0).bind fun t164=>((cmp_isNaN_int.f a1).bind fun t165=>(if t164=true then (if t165=true then (some 0) else (some (-1))) else (if t165=true then (some 1) else (if a0<a1 then (some (-1)) else (if a0 > a1 then (some 1) else (some 0)))))))=some r:=h;clear h;replace H:=Option.bind_eq_some_iff.mp H;obtain⟨t164,A30,H⟩:=H;replace H:((cmp_isNaN_int.f a1).bind fun t165=>(if t164=true then (if t165=true then (some 0) else (some (-1))) else (if t165=true then (some 1) else (if a0<a1 then (some (-1)) else (if a0 > a1 then (some 1) else (some 0))))))=some r:=H;have A3:=Aside0.mk A30;clear A30;replace H:=Option.bind_eq_some_iff.mp H;obtain⟨t165,A40,H⟩:=H;replace H:(if t164=true then (if t165=true then (some 0) else (some (-1))) else (if t165=true then (some 1) else (if a0<a1 then (some (-1)) else (if a0 > a1 then (some 1) else (some 0)))))=some r:=H;have A4:=Aside0.mk A40;clear A40;by_cases c5:t164=true
 ·subst c5;have H1:(if t165=true then (some 0) else (some (-1)))=some r:=by rw[kAb rfl] at H;exact H
  clear H;have H:=H1;clear H1;by_cases c6:t165=true
  ·subst c6;have H1:(some 0)=some r:=by rw[kAb rfl] at H;exact H
   clear H;have H:=H1;clear H1;obtain rfl:=kAc H;go_enter Tryz.func263,Tryz.ntmps263;go_wp2_with (first | ((with_reducible refine zAc (f:=283) rfl ?_);refine zAQ (some 8) rfl rfl Tryz.func283 kCX rfl #[.int .i64 a0] rfl kD4 ?_;(with_reducible refine (cmp_isNaN_int.calls a0 true _ A3.out).mono ?_);rintro e w' ⟨rfl,⟨nd,rfl⟩⟩;refine⟨_,rfl,?_⟩) | ((with_reducible refine zAc (f:=283) rfl ?_);refine zAQ (some 10) rfl rfl Tryz.func283 kCX rfl #[.int .i64 a1] rfl kD4 ?_;(with_reducible refine (cmp_isNaN_int.calls a1 true _ A4.out).mono ?_);rintro e w' ⟨rfl,⟨nd,rfl⟩⟩;refine⟨_,rfl,?_⟩));go_ret;exact⟨kD8,by repeat (first | exact Drawn0.refl _ | apply Drawn0.step)⟩
  ·replace c6:=Bool.eq_false_iff.mpr c6;subst c6;have H1:(some (-1))=some r:=by rw[kAa (show ¬(false=true) by decide)] at H;exact H
   clear H;have H:=H1;clear H1;obtain rfl:=kAc H;go_enter Tryz.func263,Tryz.ntmps263;go_wp2_with (first | ((with_reducible refine zAc (f:=283) rfl ?_);refine zAQ (some 8) rfl rfl Tryz.func283 kCX rfl #[.int .i64 a0] rfl kD4 ?_;(with_reducible refine (cmp_isNaN_int.calls a0 true _ A3.out).mono ?_);rintro e w' ⟨rfl,⟨nd,rfl⟩⟩;refine⟨_,rfl,?_⟩) | ((with_reducible refine zAc (f:=283) rfl ?_);refine zAQ (some 10) rfl rfl Tryz.func283 kCX rfl #[.int .i64 a1] rfl kD4 ?_;(with_reducible refine (cmp_isNaN_int.calls a1 false _ A4.out).mono ?_);rintro e w' ⟨rfl,⟨nd,rfl⟩⟩;refine⟨_,rfl,?_⟩));go_ret;exact⟨kD8,by repeat (first | exact Drawn0.refl _ | apply Drawn0.step)⟩
 ·replace c5:=Bool.eq_false_iff.mpr c5;subst c5;have H1:(if t165=true then (some 1) else (if a0<a1 then (some (-1)) else (if a0 > a1 then (some 1) else (some 0))))=some r:=by rw[kAa (show ¬(false=true) by decide)] at H;exact H
  clear H;have H:=H1;clear H1;by_cases c7:t165=true
  ·subst c7;have H1:(some 1)=some r:=by rw[kAb rfl] at H;exact H
   clear H;have H:=H1;clear H1;obtain rfl:=kAc H;go_enter Tryz.func263,Tryz.ntmps263;go_wp2_with (first | ((with_reducible refine zAc (f:=283) rfl ?_);refine zAQ (some 8) rfl rfl Tryz.func283 kCX rfl #[.int .i64 a0] rfl kD4 ?_;(with_reducible refine (cmp_isNaN_int.calls a0 false _ A3.out).mono ?_);rintro e w' ⟨rfl,⟨nd,rfl⟩⟩;refine⟨_,rfl,?_⟩) | ((with_reducible refine zAc (f:=283) rfl ?_);refine zAQ (some 10) rfl rfl Tryz.func283 kCX rfl #[.int .i64 a1] rfl kD4 ?_;(with_reducible refine (cmp_isNaN_int.calls a1 true _ A4.out).mono ?_);rintro e w' ⟨rfl,⟨nd,rfl⟩⟩;refine⟨_,rfl,?_⟩));go_ret;exact⟨kD8,by repeat (first | exact Drawn0.refl _ | apply Drawn0.step)⟩
  ·replace c7:=Bool.eq_false_iff.mpr c7;subst c7;have H1:(if a0<a1 then (some (-1)) else (if a0 > a1 then (some 1) else (some 0)))=some r:=by rw[kAa (show ¬(false=true) by decide)] at H;exact H
   clear H;have H:=H1;clear H1;by_cases c8:a0<a1
   ·rw[kAb c8] at H;have c8b0:decide (a0<a1)=true:=kA5 c8;clear c8;obtain rfl:=kAc H;go_enter Tryz.func263,Tryz.ntmps263;go_wp2_with (first | ((with_reducible refine zAc (f:=283) rfl ?_);refine zAQ (some 8) rfl rfl Tryz.func283 kCX rfl #[.int .i64 a0] rfl kD4 ?_;(with_reducible refine (cmp_isNaN_int.calls a0 false _ A3.out).mono ?_);rintro e w' ⟨rfl,⟨nd,rfl⟩⟩;refine⟨_,rfl,?_⟩) | ((with_reducible refine zAc (f:=283) rfl ?_);refine zAQ (some 10) rfl rfl Tryz.func283 kCX rfl #[.int .i64 a1] rfl kD4 ?_;(with_reducible refine (cmp_isNaN_int.calls a1 false _ A4.out).mono ?_);rintro e w' ⟨rfl,⟨nd,rfl⟩⟩;refine⟨_,rfl,?_⟩));go_ret;exact⟨kD8,by repeat (first | exact Drawn0.refl _ | apply Drawn0.step)⟩
   ·rw[kAa c8] at H;have c8b0:decide (a0<a1)=false:=kA6 c8;clear c8;by_cases c9:a0 > a1
    ·rw[kAb c9] at H;have c9b0:decide (a1<a0)=true:=kA5 c9;clear c9;obtain rfl:=kAc H;go_enter Tryz.func263,Tryz.ntmps263;go_wp2_with (first | ((with_reducible refine zAc (f:=283) rfl ?_);refine zAQ (some 8) rfl rfl Tryz.func283 kCX rfl #[.int .i64 a0] rfl kD4 ?_;(with_reducible refine (cmp_isNaN_int.calls a0 false _ A3.out).mono ?_);rintro e w' ⟨rfl,⟨nd,rfl⟩⟩;refine⟨_,rfl,?_⟩) | ((with_reducible refine zAc (f:=283) rfl ?_);refine zAQ (some 10) rfl rfl Tryz.func283 kCX rfl #[.int .i64 a1] rfl kD4 ?_;(with_reducible refine (cmp_isNaN_int.calls a1 false _ A4.out).mono ?_);rintro e w' ⟨rfl,⟨nd,rfl⟩⟩;refine⟨_,rfl,?_⟩));go_ret;exact⟨kD8,by repeat (first | exact Drawn0.refl _ | apply Drawn0.step)⟩
    ·rw[kAa c9] at H;have c9b0:decide (a1<a0)=false:=kA6 c9;clear c9;obtain rfl:=kAc H;go_enter Tryz.func263,Tryz.ntmps263;go_wp2_with (first | ((with_reducible refine zAc (f:=283) rfl ?_);refine zAQ (some 8) rfl rfl Tryz.func283 kCX rfl #[.int .i64 a0] rfl kD4 ?_;(with_reducible refine (cmp_isNaN_int.calls a0 false _ A3.out).mono ?_);rintro e w' ⟨rfl,⟨nd,rfl⟩⟩;refine⟨_,rfl,?_⟩) | ((with_reducible refine zAc (f:=283) rfl ?_);refine zAQ (some 10) rfl rfl Tryz.func283 kCX rfl #[.int .i64 a1] rfl kD4 ?_;(with_reducible refine (cmp_isNaN_int.calls a1 false _ A4.out).mono ?_);rintro e w' ⟨rfl,⟨nd,rfl⟩⟩;refine⟨_,rfl,?_⟩));go_ret;exact⟨kD8,by repeat (first | exact Drawn0.refl _ | apply Drawn0.step)⟩
def cmp_isNaN_uint32.f (a0:Int):Option (Bool):=some (a0 != a0)
theorem cmp_isNaN_uint32.calls (a0:Int) (r:Bool) (w:World) (h:cmp_isNaN_uint32.f a0=some r) :
  Calls Tryz.prog 284 #[.int .u32 a0] w fun e w'=>e=.returned (.bool r)∧Drawn0 w w':=by
 have H:(some (a0 != a0))=some r:=h;clear h;obtain rfl:=kAc H;go_enter Tryz.func284,Tryz.ntmps284;go_wp2;go_ret;exact⟨kD8,by repeat (first | exact Drawn0.refl _ | apply Drawn0.step)⟩
def cmp_Compare_uint32.f (a0:Int) (a1:Int):Option (Int):=(cmp_isNaN_uint32.f a0).bind fun t166=>((cmp_isNaN_uint32.f a1).bind fun t167=>(if t166=true then (if t167=true then (some 0) else (some (-1))) else (if t167=true then (some 1) else (if a0<a1 then (some (-1)) else (if a0 > a1 then (some 1) else (some 0))))))
theorem cmp_Compare_uint32.calls (a0:Int) (a1:Int) (r:Int) (w:World) (h:cmp_Compare_uint32.f a0 a1=some r) :
  Calls Tryz.prog 264 #[.int .u32 a0,.int .u32 a1] w fun e w'=>e=.returned (.int .i64 r)∧Drawn0 w w':=by
 have H:((cmp_isNaN_uint32.f a0).bind fun t166=>((cmp_isNaN_uint32.f a1).bind fun t167=>(if t166=true then (if t167=true then (some 0) else (some (-1))) else (if t167=true then (some 1) else (if a0<a1 then (some (-1)) else (if a0 > a1 then (some 1) else (some 0)))))))=some r:=h;clear h;replace H:=Option.bind_eq_some_iff.mp H;obtain⟨t166,A30,H⟩:=H;replace H:((cmp_isNaN_uint32.f a1).bind fun t167=>(if t166=true then (if t167=true then (some 0) else (some (-1))) else (if t167=true then (some 1) else (if a0<a1 then (some (-1)) else (if a0 > a1 then (some 1) else (some 0))))))=some r:=H;have A3:=Aside0.mk A30;clear A30;replace H:=Option.bind_eq_some_iff.mp H;obtain⟨t167,A40,H⟩:=H;replace H:(if t166=true then (if t167=true then (some 0) else (some (-1))) else (if t167=true then (some 1) else (if a0<a1 then (some (-1)) else (if a0 > a1 then (some 1) else (some 0)))))=some r:=H;have A4:=Aside0.mk A40;clear A40;by_cases c5:t166=true
 ·subst c5;have H1:(if t167=true then (some 0) else (some (-1)))=some r:=by rw[kAb rfl] at H;exact H
  clear H;have H:=H1;clear H1;by_cases c6:t167=true
  ·subst c6;have H1:(some 0)=some r:=by rw[kAb rfl] at H;exact H
   clear H;have H:=H1;clear H1;obtain rfl:=kAc H;go_enter Tryz.func264,Tryz.ntmps264;go_wp2_with (first | ((with_reducible refine zAc (f:=284) rfl ?_);refine zAQ (some 8) rfl rfl Tryz.func284 kCX rfl #[.int .u32 a0] rfl kD4 ?_;(with_reducible refine (cmp_isNaN_uint32.calls a0 true _ A3.out).mono ?_);rintro e w' ⟨rfl,⟨nd,rfl⟩⟩;refine⟨_,rfl,?_⟩) | ((with_reducible refine zAc (f:=284) rfl ?_);refine zAQ (some 10) rfl rfl Tryz.func284 kCX rfl #[.int .u32 a1] rfl kD4 ?_;(with_reducible refine (cmp_isNaN_uint32.calls a1 true _ A4.out).mono ?_);rintro e w' ⟨rfl,⟨nd,rfl⟩⟩;refine⟨_,rfl,?_⟩));go_ret;exact⟨kD8,by repeat (first | exact Drawn0.refl _ | apply Drawn0.step)⟩
  ·replace c6:=Bool.eq_false_iff.mpr c6;subst c6;have H1:(some (-1))=some r:=by rw[kAa (show ¬(false=true) by decide)] at H;exact H
   clear H;have H:=H1;clear H1;obtain rfl:=kAc H;go_enter Tryz.func264,Tryz.ntmps264;go_wp2_with (first | ((with_reducible refine zAc (f:=284) rfl ?_);refine zAQ (some 8) rfl rfl Tryz.func284 kCX rfl #[.int .u32 a0] rfl kD4 ?_;(with_reducible refine (cmp_isNaN_uint32.calls a0 true _ A3.out).mono ?_);rintro e w' ⟨rfl,⟨nd,rfl⟩⟩;refine⟨_,rfl,?_⟩) | ((with_reducible refine zAc (f:=284) rfl ?_);refine zAQ (some 10) rfl rfl Tryz.func284 kCX rfl #[.int .u32 a1] rfl kD4 ?_;(with_reducible refine (cmp_isNaN_uint32.calls a1 false _ A4.out).mono ?_);rintro e w' ⟨rfl,⟨nd,rfl⟩⟩;refine⟨_,rfl,?_⟩));go_ret;exact⟨kD8,by repeat (first | exact Drawn0.refl _ | apply Drawn0.step)⟩
 ·replace c5:=Bool.eq_false_iff.mpr c5;subst c5;have H1:(if t167=true then (some 1) else (if a0<a1 then (some (-1)) else (if a0 > a1 then (some 1) else (some 0))))=some r:=by rw[kAa (show ¬(false=true) by decide)] at H;exact H
  clear H;have H:=H1;clear H1;by_cases c7:t167=true
  ·subst c7;have H1:(some 1)=some r:=by rw[kAb rfl] at H;exact H
   clear H;have H:=H1;clear H1;obtain rfl:=kAc H;go_enter Tryz.func264,Tryz.ntmps264;go_wp2_with (first | ((with_reducible refine zAc (f:=284) rfl ?_);refine zAQ (some 8) rfl rfl Tryz.func284 kCX rfl #[.int .u32 a0] rfl kD4 ?_;(with_reducible refine (cmp_isNaN_uint32.calls a0 false _ A3.out).mono ?_);rintro e w' ⟨rfl,⟨nd,rfl⟩⟩;refine⟨_,rfl,?_⟩) | ((with_reducible refine zAc (f:=284) rfl ?_);refine zAQ (some 10) rfl rfl Tryz.func284 kCX rfl #[.int .u32 a1] rfl kD4 ?_;(with_reducible refine (cmp_isNaN_uint32.calls a1 true _ A4.out).mono ?_);rintro e w' ⟨rfl,⟨nd,rfl⟩⟩;refine⟨_,rfl,?_⟩));go_ret;exact⟨kD8,by repeat (first | exact Drawn0.refl _ | apply Drawn0.step)⟩
  ·replace c7:=Bool.eq_false_iff.mpr c7;subst c7;have H1:(if a0<a1 then (some (-1)) else (if a0 > a1 then (some 1) else (some 0)))=some r:=by rw[kAa (show ¬(false=true) by decide)] at H;exact H
   clear H;have H:=H1;clear H1;by_cases c8:a0<a1
   ·rw[kAb c8] at H;have c8b0:decide (a0<a1)=true:=kA5 c8;clear c8;obtain rfl:=kAc H;go_enter Tryz.func264,Tryz.ntmps264;go_wp2_with (first | ((with_reducible refine zAc (f:=284) rfl ?_);refine zAQ (some 8) rfl rfl Tryz.func284 kCX rfl #[.int .u32 a0] rfl kD4 ?_;(with_reducible refine (cmp_isNaN_uint32.calls a0 false _ A3.out).mono ?_);rintro e w' ⟨rfl,⟨nd,rfl⟩⟩;refine⟨_,rfl,?_⟩) | ((with_reducible refine zAc (f:=284) rfl ?_);refine zAQ (some 10) rfl rfl Tryz.func284 kCX rfl #[.int .u32 a1] rfl kD4 ?_;(with_reducible refine (cmp_isNaN_uint32.calls a1 false _ A4.out).mono ?_);rintro e w' ⟨rfl,⟨nd,rfl⟩⟩;refine⟨_,rfl,?_⟩));go_ret;exact⟨kD8,by repeat (first | exact Drawn0.refl _ | apply Drawn0.step)⟩
   ·rw[kAa c8] at H;have c8b0:decide (a0<a1)=false:=kA6 c8;clear c8;by_cases c9:a0 > a1
    ·rw[kAb c9] at H;have c9b0:decide (a1<a0)=true:=kA5 c9;clear c9;obtain rfl:=kAc H;go_enter Tryz.func264,Tryz.ntmps264;go_wp2_with (first | ((with_reducible refine zAc (f:=284) rfl ?_);refine zAQ (some 8) rfl rfl Tryz.func284 kCX rfl #[.int .u32 a0] rfl kD4 ?_;(with_reducible refine (cmp_isNaN_uint32.calls a0 false _ A3.out).mono ?_);rintro e w' ⟨rfl,⟨nd,rfl⟩⟩;refine⟨_,rfl,?_⟩) | ((with_reducible refine zAc (f:=284) rfl ?_);refine zAQ (some 10) rfl rfl Tryz.func284 kCX rfl #[.int .u32 a1] rfl kD4 ?_;(with_reducible refine (cmp_isNaN_uint32.calls a1 false _ A4.out).mono ?_);rintro e w' ⟨rfl,⟨nd,rfl⟩⟩;refine⟨_,rfl,?_⟩));go_ret;exact⟨kD8,by repeat (first | exact Drawn0.refl _ | apply Drawn0.step)⟩
    ·rw[kAa c9] at H;have c9b0:decide (a1<a0)=false:=kA6 c9;clear c9;obtain rfl:=kAc H;go_enter Tryz.func264,Tryz.ntmps264;go_wp2_with (first | ((with_reducible refine zAc (f:=284) rfl ?_);refine zAQ (some 8) rfl rfl Tryz.func284 kCX rfl #[.int .u32 a0] rfl kD4 ?_;(with_reducible refine (cmp_isNaN_uint32.calls a0 false _ A3.out).mono ?_);rintro e w' ⟨rfl,⟨nd,rfl⟩⟩;refine⟨_,rfl,?_⟩) | ((with_reducible refine zAc (f:=284) rfl ?_);refine zAQ (some 10) rfl rfl Tryz.func284 kCX rfl #[.int .u32 a1] rfl kD4 ?_;(with_reducible refine (cmp_isNaN_uint32.calls a1 false _ A4.out).mono ?_);rintro e w' ⟨rfl,⟨nd,rfl⟩⟩;refine⟨_,rfl,?_⟩));go_ret;exact⟨kD8,by repeat (first | exact Drawn0.refl _ | apply Drawn0.step)⟩
def limbs_shortly.l0:Nat→List Int→Int→List Int→Int→Int→Int→Option (List Int×Int)
 | 0,_,_,_,_,_,_=>none
 | k+1,x0,x1,x6,x7,x14,x15=>if x15<x14 then (if 0≤(wrap64 ((wrap64 ((x0.length:Int)-1))-x15)) then (if (wrap64 ((wrap64 ((x0.length:Int)-1))-x15))<(x0.length:Int) then (if (IntKind.u64.wrap (x1))=0 then (none) else (if (wrap64 ((wrap64 ((x0.length:Int)-1))-x15))<(x6.length:Int) then (limbs_shortly.l0 k x0 x1 (x6.set ((wrap64 ((wrap64 ((x0.length:Int)-1))-x15)):Int).toNat ((IntKind.u64.wrap (Int.tdiv (IntKind.u64.wrap ((IntKind.u64.wrap (x7*1000000000))+(IntKind.u64.wrap (rd x0 (wrap64 ((wrap64 ((x0.length:Int)-1))-x15)))))) (IntKind.u64.wrap (x1)))) % 4294967296)) (Int.tmod (IntKind.u64.wrap ((IntKind.u64.wrap (x7*1000000000))+(IntKind.u64.wrap (rd x0 (wrap64 ((wrap64 ((x0.length:Int)-1))-x15)))))) (IntKind.u64.wrap (x1))) x14 (wrap64 (x15+1))) else (none))) else (none)) else (none)) else (some (x6,(x7) % 4294967296))
def limbs_shortly.f (k:Nat) (l0:List Int) (a1:Int):Option (List Int×Int):=if 0≤(l0.length:Int) then (if ((l0.length:Int):Int).toNat≤70368744177664 then (limbs_shortly.l0 k l0 a1 (List.replicate ((l0.length:Int):Int).toNat 0) 0 (l0.length:Int) 0) else (none)) else (none)
def limbs_shortly.T8:Bool×List (List Nat×List Nat):=(true,[([],[]),([],[]),([],[]),([],[]),([3],[3]),([2,4],[2,4]),([5],[5]),([],[]),([],[]),([8],[8]),([7,9],[7,9]),([0,1,0,1,2,3,4,5,6],[0,1]),([11,6,0,1,2,3,4,5,6],[6,11]),([10,12,0,1,2,3,4,5,6,7,8,9,10,11,12],[2,7,10])])
def limbs_shortly.B8:List Nat:=[0,0,0,0,8,28,60,0,0,256,896,127,2175,8191]
theorem limbs_shortly.tab8:rtab .any (opsOf Tryz.f259 8)=limbs_shortly.T8:=kCX
theorem limbs_shortly.bits8:waitsOk limbs_shortly.T8.2 limbs_shortly.B8=true:=kCX
theorem limbs_shortly.calls (k:Nat) (A0:Option Addr) (c0:Nat) (l0:List Int) (a1:Int) (r1:List Int) (r2:Int) (w:World) (hr0:Kd.C (Kd.int .u32) w A0 l0.length l0) (hc0:l0.length≤c0) (h:limbs_shortly.f k l0 a1=some (r1,r2)) :
  Calls Tryz.prog 259 #[.slice A0 l0.length c0,.int .u32 a1] w fun e w'=>∃v0_:Value,e=.returned (.tuple #[v0_,.int .u32 r2])∧Kd.R (Kd.int .u32) 270 w' w.heap.size (fun _=>True) v0_ r1∧Below w.heap.size w w':=by
 have HR0:=Aside0.mk hr0;have HC0:=Aside0.mk hc0;clear hr0 hc0;have HB:=Aside0.mk (kA3 w.heap.size w);have H:(if 0≤(l0.length:Int) then (if ((l0.length:Int):Int).toNat≤70368744177664 then (limbs_shortly.l0 k l0 a1 (List.replicate ((l0.length:Int):Int).toNat 0) 0 (l0.length:Int) 0) else (none)) else (none))=some (r1,r2):=h;clear h;by_cases c3:0≤(l0.length:Int)
 ·rw[kAb c3] at H;have c3b0:=kAs c3;have c3b1:decide (0≤(l0.length:Int))=true:=kA5 c3;clear c3;by_cases c4:((l0.length:Int):Int).toNat≤70368744177664
  ·rw[kAb c4] at H;have c4b0:=kAs c4;have c4b1:decide (((l0.length:Int):Int).toNat≤70368744177664)=true:=kA5 c4;clear c4;obtain⟨y170,hy170⟩:∃y_:List Int,y_=(List.replicate ((l0.length:Int):Int).toNat 0):=⟨_,rfl⟩;replace H:(limbs_shortly.l0 k l0 a1 y170 0 (l0.length:Int) 0)=some (r1,r2):=by first | (rw[hy170];with_reducible exact H) | (have H2_:=(Option.bind_some _ _).symm.trans H;rw[hy170];with_reducible exact H2_) | (have H2_:=(Option.bind_some _ _).symm.trans H;with_reducible exact H2_) | with_reducible exact H | (rw[hy170];exact H) | exact H
   have Ny170:=Aside0.mk hy170;clear hy170;have H':=Aside0.mk H;clear H;go_enter Tryz.func259,Tryz.ntmps259;go_wp2_with (first | ((with_reducible refine zE0 (N:=12) rfl ?_);refine Kd.R_make (Kd.int .u32) _ 270 rfl (N:=12) rfl 232 _ _ rfl (l0.length:Int) rfl rfl Tryz.underlying232 (.int .u32 0) 4 info270 rfl kD0 kCW 0 (ok:=fun _=>True) (okp:=fun _=>True) rfl (fun _ hk=>hk) trivial (kA8 kD1) (kAz (kBg _ (kA8 kD1:(l0.length:Int).toNat≤70368744177664)) kCW) (kA3 _ _) (kA2 _) ?_;intro v171 w5 ho6 hb hg_ hnew_;clear hg_ hnew_;(first | rw[← Ny170.out] at ho6 | (simp only[Int.reduceToNat] at ho6;rw[← Ny170.out] at ho6));have n0_:=Aside0.mk (Kd.R_lower ho6 (zBd kD7));have n1_:=Aside0.mk (zAG kD7 hb);clear HB;have HO172:=n0_;have HB:=n1_;clear n0_ n1_;clear hb ho6));go_loopg [7,15] k (fun kq v7 v15 w'=>∃(x6_1:List Int) (x7_1:Int) (x15_1:Int),v7=.int .u64 x7_1∧v15=.int .i64 x15_1∧Aside0 (limbs_shortly.l0 kq l0 a1 x6_1 x7_1 (l0.length:Int) x15_1=some (r1,r2))∧Aside0 (kq≤k)∧Aside0 (Kd.R (Kd.int .u32) 270 w' w.heap.size (fun _=>True) v171 x6_1)∧Aside0 (Below w.heap.size w w'))
   case atStart=>exact⟨(y170),(0),(0),kD8,kD8,H',⟨kA2 _⟩,⟨by (with_reducible repeat (first | apply Kd.R_alloc | apply Kd.R_drewN | apply Kd.R_drew));exact HO172.out⟩,⟨kD7⟩⟩
   case round =>
    clear H'
    try clear c2
    try clear p2
    try clear c3
    try clear c3b0
    try clear c3b1
    try clear c4
    try clear c4b0
    try clear c4b1
    obtain⟨x6_1,x7_1,x15_1,rfl,rfl,HA,HK1,HO_6,HB⟩:=hrel
    cases gk with
    | zero=>exact absurd HA.out (by simp[limbs_shortly.l0])
    | succ k1 =>
     have H:=HA.out;clear HA;simp only[limbs_shortly.l0] at H;by_cases c7:x15_1<(l0.length:Int)
     ·rw[kAb c7] at H;have c7b0:decide (x15_1<(l0.length:Int))=true:=kA5 c7;clear c7;obtain⟨ji8,hji8⟩:∃j_:Int,(wrap64 ((wrap64 ((l0.length:Int)-1))-x15_1))=j_:=⟨_,rfl⟩;replace H:(if 0≤(ji8) then (if (ji8)<(l0.length:Int) then (if (IntKind.u64.wrap (a1))=0 then (none) else (if (ji8)<(x6_1.length:Int) then (limbs_shortly.l0 k1 l0 a1 (x6_1.set ((ji8):Int).toNat ((IntKind.u64.wrap (Int.tdiv (IntKind.u64.wrap ((IntKind.u64.wrap (x7_1*1000000000))+(IntKind.u64.wrap (rd l0 (ji8))))) (IntKind.u64.wrap (a1)))) % 4294967296)) (Int.tmod (IntKind.u64.wrap ((IntKind.u64.wrap (x7_1*1000000000))+(IntKind.u64.wrap (rd l0 (ji8))))) (IntKind.u64.wrap (a1))) (l0.length:Int) (wrap64 (x15_1+1))) else (none))) else (none)) else (none))=some (r1,r2):=by first | (rw[hji8] at H;exact H) | (simp only[hji8] at H⊢;exact H)
      have hji8w:(IntKind.i64.wrap ((wrap64 ((l0.length:Int)-1))-x15_1))=ji8:=(zAg _).trans hji8;by_cases c9:0≤(ji8)
      ·rw[kAb c9] at H;have c9b0:decide (0≤(ji8))=true:=kA5 c9;clear c9;by_cases c10:(ji8)<(l0.length:Int)
       ·rw[kAb c10] at H;have c10b0:decide ((ji8)<(l0.length:Int))=true:=kA5 c10;clear c10;by_cases c11:(IntKind.u64.wrap (a1))=0
        ·rw[kAb c11] at H;exact absurd H kCY
        ·rw[kAa c11] at H;have c11b0:((IntKind.u64.wrap (a1))==0)=false:=beq_eq_false_iff_ne.mpr c11;have c11b1:((IntKind.u64.wrap (a1)) != 0)=true:=bne_iff_ne.mpr c11;by_cases c12:(ji8)<(x6_1.length:Int)
         ·rw[kAb c12] at H;have c12b0:decide ((ji8)<(x6_1.length:Int))=true:=kA5 c12;clear c12;obtain⟨y174,hy174⟩:∃y_:List Int,y_=(x6_1.set ((ji8):Int).toNat ((IntKind.u64.wrap (Int.tdiv (IntKind.u64.wrap ((IntKind.u64.wrap (x7_1*1000000000))+(IntKind.u64.wrap (rd l0 (ji8))))) (IntKind.u64.wrap (a1)))) % 4294967296)):=⟨_,rfl⟩;replace H:(limbs_shortly.l0 k1 l0 a1 y174 (Int.tmod (IntKind.u64.wrap ((IntKind.u64.wrap (x7_1*1000000000))+(IntKind.u64.wrap (rd l0 (ji8))))) (IntKind.u64.wrap (a1))) (l0.length:Int) (wrap64 (x15_1+1)))=some (r1,r2):=by first | (rw[hy174];with_reducible exact H) | (have H2_:=(Option.bind_some _ _).symm.trans H;rw[hy174];with_reducible exact H2_) | (have H2_:=(Option.bind_some _ _).symm.trans H;with_reducible exact H2_) | with_reducible exact H | (rw[hy174];exact H) | exact H
          have Ny174:=Aside0.mk hy174;clear hy174;have H':=Aside0.mk H;clear H;have p173:0≤((ji8):Int):=kA8 kD1;have q173:(ji8)<(l0.length:Int):=kA8 kD1;obtain⟨ad173,e173,hx173_0⟩:=Kd.at_int HR0.out (ji8) p173 q173
          cases e173;replace hx173_0:=(HB.out.cell (kAG w _ hx173_0)).trans hx173_0;replace p173:=kAs p173;replace q173:=kAs q173
          try go_wp2
          have n0_:=Aside0.mk (Kd.R_drew HO_6.out);have n1_:=Aside0.mk (zA8 HB.out);clear HO_6;clear HB;have HO_6:=n0_;have HB:=n1_;clear n0_ n1_;have p13:0≤((ji8):Int):=kA8 kD1;have q13:((ji8):Int)<((x6_1.length:Int):Int):=kA8 kD1;obtain⟨go13,co13,eo13,gb13,gl13,cl13,HG13⟩:=Kd.R_form HO_6.out kCW
          (first | cases eo13 | (injection eo13 with ea_ en_ ec_;(first | subst ea_ | (injection ea_ with ea_;subst ea_));subst ec_;clear en_))
          have GB13:=Aside0.mk gb13;have GG13:=Aside0.mk HG13;clear gb13 gl13 HG13;obtain⟨hx13_0,hf13_0⟩:=Kd.R_celln 0 HO_6.out ((ji8):Int) p13 q13;replace p13:=kAs p13;replace q13:=kAs q13;have HP15:=Kd.R_putn HO_6.out ((ji8):Int) ((IntKind.u64.wrap (Int.tdiv (IntKind.u64.wrap ((IntKind.u64.wrap (x7_1*1000000000))+(IntKind.u64.wrap (rd l0 (ji8))))) (IntKind.u64.wrap (a1)))) % 4294967296);rw[← Ny174.out] at HP15;have HQ15:=Aside0.mk HP15;clear HP15;refine zEb (n:=14) (S:=fun w'=>True) (ds:=[12]) #[false,false,false,false,false,false,false,false,false,false,false,false,false,false] kCX rfl rfl trivial (fun hHeld=>?_);refine with_tabW limbs_shortly.tab8 limbs_shortly.bits8 (fun HT_ HW_=>?_);generalize wr.drew=w14 at HO_6 HB GG13 HQ15 hf13_0 hx13_0 hHeld ⊢;refine zAu (i:=0) (N:=some 31) (v:=?_) (a':=?_) #[true,false,false,false,false,false,false,false,false,false,false,false,false,false] rfl rfl (zBP HT_.out kCX) (fun _ _ _ h=>h) (Or.inl ⟨kD9,?_⟩) ?_ ?_;rotate_left
          ·intro w';go_simp
           with_reducible rfl
          rotate_left
          ·simp only[Act.put,kA0,List.set_cons_zero,List.set_cons_succ,zAg,zAh];rfl
          refine zAu (i:=1) (N:=some 32) (v:=?_) (a':=?_) #[true,true,false,false,false,false,false,false,false,false,false,false,false,false] rfl rfl (zBP HT_.out kCX) (fun _ _ _ h=>h) (Or.inl ⟨kD9,?_⟩) ?_ ?_;rotate_left
          ·intro w';go_simp
           with_reducible rfl
          rotate_left
          ·simp only[Act.put,kA0,List.set_cons_zero,List.set_cons_succ,zAg,zAh];rfl
          refine zAu (i:=2) (N:=some 33) (v:=?_) (a':=?_) #[true,true,true,false,false,false,false,false,false,false,false,false,false,false] rfl rfl (zBP HT_.out kCX) (fun _ _ _ h=>h) (Or.inl ⟨kD9,?_⟩) ?_ ?_;rotate_left
          ·intro w';go_simp
           with_reducible rfl
          rotate_left
          ·simp only[Act.put,kA0,List.set_cons_zero,List.set_cons_succ,zAg,zAh];rfl
          refine zAu (i:=3) (N:=some 34) (v:=?_) (a':=?_) #[true,true,true,true,false,false,false,false,false,false,false,false,false,false] rfl rfl (zBP HT_.out kCX) (fun _ _ _ h=>h) (Or.inl ⟨kD9,?_⟩) ?_ ?_;rotate_left
          ·intro w';go_simp
           with_reducible rfl
          rotate_left
          ·simp only[Act.put,kA0,List.set_cons_zero,List.set_cons_succ,zAg,zAh];rfl
          refine zAu (i:=4) (N:=some 35) (v:=?_) (a':=?_) #[true,true,true,true,true,false,false,false,false,false,false,false,false,false] rfl rfl (zBP HT_.out kCX) (fun _ _ _ h=>h) (Or.inl ⟨kD9,?_⟩) ?_ ?_;rotate_left
          ·intro w';go_simp
           with_reducible rfl
          rotate_left
          ·simp only[Act.put,kA0,List.set_cons_zero,List.set_cons_succ,zAg,zAh];rfl
          refine zAu (i:=5) (N:=some 36) (v:=?_) (a':=?_) #[true,true,true,true,true,true,false,false,false,false,false,false,false,false] rfl rfl (zBP HT_.out kCX) (fun _ _ _ h=>h) (Or.inl ⟨kD9,?_⟩) ?_ ?_;rotate_left
          ·intro w';go_simp
           with_reducible rfl
          rotate_left
          ·simp only[Act.put,kA0,List.set_cons_zero,List.set_cons_succ,zAg,zAh];rfl
          refine zAu (i:=6) (N:=some 37) (v:=?_) (a':=?_) #[true,true,true,true,true,true,true,false,false,false,false,false,false,false] rfl rfl (zBP HT_.out kCX) (fun _ _ _ h=>h) (Or.inl ⟨kD9,?_⟩) ?_ ?_;rotate_left
          ·intro w';go_simp
           with_reducible rfl
          rotate_left
          ·simp only[Act.put,kA0,List.set_cons_zero,List.set_cons_succ,zAg,zAh];rfl
          refine zAu (i:=7) (N:=some 38) (v:=?_) (a':=?_) #[true,true,true,true,true,true,true,true,false,false,false,false,false,false] rfl rfl (zBP HT_.out kCX) (fun _ _ _ h=>h) (Or.inl ⟨kD9,?_⟩) ?_ ?_;rotate_left
          ·intro w';go_simp
           with_reducible rfl
          rotate_left
          ·simp only[Act.put,kA0,List.set_cons_zero,List.set_cons_succ,zAg,zAh];rfl
          refine zAu (i:=8) (N:=some 39) (v:=?_) (a':=?_) #[true,true,true,true,true,true,true,true,true,false,false,false,false,false] rfl rfl (zBP HT_.out kCX) (fun _ _ _ h=>h) (Or.inl ⟨kD9,?_⟩) ?_ ?_;rotate_left
          ·intro w';go_simp
           with_reducible rfl
          rotate_left
          ·simp only[Act.put,kA0,List.set_cons_zero,List.set_cons_succ,zAg,zAh];rfl
          refine zAu (i:=9) (N:=some 40) (v:=?_) (a':=?_) #[true,true,true,true,true,true,true,true,true,true,false,false,false,false] rfl rfl (zBP HT_.out kCX) (fun _ _ _ h=>h) (Or.inl ⟨kD9,?_⟩) ?_ ?_;rotate_left
          ·intro w';go_simp
           with_reducible rfl
          rotate_left
          ·simp only[Act.put,kA0,List.set_cons_zero,List.set_cons_succ,zAg,zAh];rfl
          refine zAu (i:=10) (N:=some 41) (v:=?_) (a':=?_) #[true,true,true,true,true,true,true,true,true,true,true,false,false,false] rfl rfl (zBP HT_.out kCX) (fun _ _ _ h=>h) (Or.inl ⟨kD9,?_⟩) ?_ ?_;rotate_left
          ·intro w';go_simp
           with_reducible rfl
          rotate_left
          ·simp only[Act.put,kA0,List.set_cons_zero,List.set_cons_succ,zAg,zAh];rfl
          refine zAu (i:=11) (N:=some 42) (v:=?_) (a':=?_) #[true,true,true,true,true,true,true,true,true,true,true,true,false,false] rfl rfl (zBP HT_.out kCX) (fun _ _ _ h=>h) (Or.inl ⟨kD9,?_⟩) ?_ ?_;rotate_left
          ·intro w';go_simp
           with_reducible rfl
          rotate_left
          ·simp only[Act.put,kA0,List.set_cons_zero,List.set_cons_succ,zAg,zAh];rfl
          refine last_ (i:=12) (N:=none) #[true,true,true,true,true,true,true,true,true,true,true,true,true,false] rfl rfl (one_of HT_.out kCX) kD0 (fun K hK=>?_);refine skip_ (w1:=?_) kD9 rfl ?_ ?_;rotate_left
          ·go_simp;rfl
          refine hK.out _ _ ?_;clear hK K;refine zAu (i:=13) (N:=some 7) (v:=?_) (a':=?_) #[true,true,true,true,true,true,true,true,true,true,true,true,true,true] rfl rfl (zBP HT_.out kCX) (fun _ _ _ h=>h) (Or.inl ⟨kD9,?_⟩) ?_ ?_;rotate_left
          ·intro w';go_simp
           with_reducible rfl
          rotate_left
          ·simp only[Act.put,kA0,List.set_cons_zero,List.set_cons_succ,zAg,zAh];rfl
          refine done_ (done_of HT_.out kCX) ?_
          try go_wp2
          go_roundg k1
          case measure=>have:=HK1.out;omega
          case rel=>exact⟨(y174),(Int.tmod (IntKind.u64.wrap ((IntKind.u64.wrap (x7_1*1000000000))+(IntKind.u64.wrap (rd l0 (ji8))))) (IntKind.u64.wrap (a1))),(wrap64 (x15_1+1)),(by first | rfl | (simp;done) | (simp only[← hji8]<;>(first | rfl | simp)) | (simp[*];done)),kD8,H',⟨by have:=HK1.out;omega⟩,⟨by (with_reducible repeat (first | apply Kd.R_alloc | apply Kd.R_drewN | apply Kd.R_drew));exact HQ15.out⟩,⟨by repeat (first | (with_reducible first | exact HB.out | apply zA7 | apply zA3 | apply zA8 | refine zB0 ?_ GB13.out) | exact HB.out)⟩⟩
         ·rw[kAa c12] at H;exact absurd H kCY
       ·rw[kAa c10] at H;exact absurd H kCY
      ·rw[kAa c9] at H;exact absurd H kCY
     ·rw[kAa c7] at H;have c7b0:decide (x15_1<(l0.length:Int))=false:=kA6 c7;clear c7;simp only[kBS,kBQ] at H;obtain⟨rfl,rfl⟩:=H;go_wp2
      go_ret2
      exact⟨_,by first | rfl | (simp[zAr,zAq]<;>rfl) | (simp[*,zAr,zAq]<;>rfl),by (with_reducible repeat (first | apply Kd.R_alloc | apply Kd.R_drewN | apply Kd.R_drew));exact HO_6.out,kD7⟩
  ·rw[kAa c4] at H;exact absurd H kCY
 ·rw[kAa c3] at H;exact absurd H kCY
end
end Go.Proofs.YtjaobihcdkjmbaaGreatDoor.PReadTokens
end
section
namespace Go.Proofs.YtjaobihcdkjmbaaGreatDoor
open Go.RowKit Go.Proofs.YtjaobihcdkjmbaaGreatDoorW.PrintWords Go.Proofs.YtjaobihcdkjmbaaGreatDoor.PReadTokens
theorem part270_0 (a b:Int) (w:World):(part 270 #[.int .u32 a,.int .u32 b] (0*Tryz.prog.cellsOf 270)).run Tryz.prog w=.ok (.int .u32 a) w:=kCX
theorem part270_1 (a b:Int) (w:World):(part 270 #[.int .u32 a,.int .u32 b] (1*Tryz.prog.cellsOf 270)).run Tryz.prog w=.ok (.int .u32 b) w:=kCX
theorem part270_2 (a b:Int) (w:World):(part 270 #[.int .u32 a,.int .u32 b] (Tryz.prog.cellsOf 270)).run Tryz.prog w=.ok (.int .u32 b) w:=kCX
theorem eq309 (a b c d:Int) (w:World):(Op.equalIn 10000 309 (.agg #[.int .u32 a,.int .u32 b]) (.agg #[.int .u32 c,.int .u32 d])).run Tryz.prog w=.ok (a==c&&b==d) w:=by
 obtain⟨i,hi⟩:=kC5.1 (show (Tryz.prog.info? 270).isSome=true by kernel_rfl);have h:=run_equalIn_array (P:=Tryz.prog) w 9999 #[.int .u32 a,.int .u32 b] #[.int .u32 c,.int .u32 d] Tryz.underlying309 hi;have h0:∀x y:Int,(Op.equalIn 9999 270 (.int .u32 x) (.int .u32 y)).run Tryz.prog w=.ok (x==y) w:=fun x y=>run_equalIn_int w 9998 270 .u32 .u32 x y Tryz.underlying270
 refine h.trans ?_;show (Op.eqItems 9999 270 (Tryz.prog.cellsOf 270) _ _ [0,1]).run Tryz.prog w=_;simp only[Op.eqItems,kCj,part270_0,part270_1,Result.andThen_ok,h0]
 cases hx:(a==c)<;>cases hy:(b==d)<;>simp[part270_2,h0,hy]
def cmpI (a b:Int):Int:=if a<b then -1 else if a > b then 1 else 0
theorem cmp32 (a b:Int) (w:World):Calls Tryz.prog 264 #[.int .u32 a,.int .u32 b] w fun e w'=>e=.returned (.int .i64 (cmpI a b))∧∃n,w'=w.drewN n :=
 (cmp_Compare_uint32.calls a b (cmpI a b) w (by
  have h1:cmp_isNaN_uint32.f a=some false:=by unfold cmp_isNaN_uint32.f;simp
  have h2:cmp_isNaN_uint32.f b=some false:=by unfold cmp_isNaN_uint32.f;simp
  unfold cmp_Compare_uint32.f cmpI;rw[h1,h2];by_cases hlt:a<b
  ·simp[hlt]
  ·by_cases hgt:a > b
   ·simp[hlt,hgt]
   ·simp[hlt,hgt])).mono fun _ _ ⟨h1,h2⟩=>⟨h1,h2.out⟩
end Go.Proofs.YtjaobihcdkjmbaaGreatDoor
end
